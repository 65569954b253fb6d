/- A part. -/
import Derived.Test.YtodldpffhfgicaaGreatDoorX1
import Derived.KernelRfl
set_option linter.all false
noncomputable section
namespace Go.Ab.X
open Go Go.Ab Go.Proofs
set_option maxRecDepth 100000
def intr1 (f:Nat)(args:List AV):Option AV:=match intr f args with|some v=>some v|none=>bif Nat.beq f 5&&args.isEmpty then some (.bool true) else none
def E1:Env:=E.wi intr1
theorem tys0:(E1.types 0).size=1:=by kernel_rfl
theorem tyd0:(E1.types 0).d=.other:=by kernel_rfl
theorem tyb0:(E1.types 0).bytes=0:=by kernel_rfl
theorem tyz0:cellsOf (zAK (E1.types 0))=[undef]:=by kernel_rfl
theorem tyo0:(E1.types 0).ok=false:=by kernel_rfl
theorem tyk0 (cs:List AV)(o:Nat):pick1 (E1.types 0) cs o=lnth cs o:=zAS (by kernel_rfl) (by kernel_rfl) cs
theorem tys3:(E1.types 3).size=1:=by kernel_rfl
theorem tyd3:(E1.types 3).d=.int .i64:=by kernel_rfl
theorem tyb3:(E1.types 3).bytes=8:=by kernel_rfl
theorem tyz3:cellsOf (zAK (E1.types 3))=[.int .i64 0]:=by kernel_rfl
theorem tyo3:(E1.types 3).ok=true:=by kernel_rfl
theorem tyk3 (cs:List AV)(o:Nat):pick1 (E1.types 3) cs o=lnth cs o:=zAS (by kernel_rfl) (by kernel_rfl) cs
theorem tys4:(E1.types 4).size=1:=by kernel_rfl
theorem tyd4:(E1.types 4).d=.bool:=by kernel_rfl
theorem tyb4:(E1.types 4).bytes=1:=by kernel_rfl
theorem tyz4:cellsOf (zAK (E1.types 4))=[.bool false]:=by kernel_rfl
theorem tyo4:(E1.types 4).ok=true:=by kernel_rfl
theorem tyk4 (cs:List AV)(o:Nat):pick1 (E1.types 4) cs o=lnth cs o:=zAS (by kernel_rfl) (by kernel_rfl) cs
theorem tys5:(E1.types 5).size=1:=by kernel_rfl
theorem tyd5:(E1.types 5).d=.int .u8:=by kernel_rfl
theorem tyb5:(E1.types 5).bytes=1:=by kernel_rfl
theorem tyz5:cellsOf (zAK (E1.types 5))=[.int .u8 0]:=by kernel_rfl
theorem tyo5:(E1.types 5).ok=true:=by kernel_rfl
theorem tyk5 (cs:List AV)(o:Nat):pick1 (E1.types 5) cs o=lnth cs o:=zAS (by kernel_rfl) (by kernel_rfl) cs
theorem tys9:(E1.types 9).size=1:=by kernel_rfl
theorem tyd9:(E1.types 9).d=.str:=by kernel_rfl
theorem tyb9:(E1.types 9).bytes=16:=by kernel_rfl
theorem tyz9:cellsOf (zAK (E1.types 9))=[.str []]:=by kernel_rfl
theorem tyo9:(E1.types 9).ok=true:=by kernel_rfl
theorem tyk9 (cs:List AV)(o:Nat):pick1 (E1.types 9) cs o=lnth cs o:=zAS (by kernel_rfl) (by kernel_rfl) cs
theorem tys20:(E1.types 20).size=1:=by kernel_rfl
theorem tyd20:(E1.types 20).d=.iface:=by kernel_rfl
theorem tyb20:(E1.types 20).bytes=16:=by kernel_rfl
theorem tyz20:cellsOf (zAK (E1.types 20))=[.niliface]:=by kernel_rfl
theorem tyo20:(E1.types 20).ok=true:=by kernel_rfl
theorem tyk20 (cs:List AV)(o:Nat):pick1 (E1.types 20) cs o=lnth cs o:=zAS (by kernel_rfl) (by kernel_rfl) cs
theorem tys22:(E1.types 22).size=1:=by kernel_rfl
theorem tyd22:(E1.types 22).d=.slice 9:=by kernel_rfl
theorem tyb22:(E1.types 22).bytes=24:=by kernel_rfl
theorem tyz22:cellsOf (zAK (E1.types 22))=[.sl 0 [] .nil]:=by kernel_rfl
theorem tyo22:(E1.types 22).ok=true:=by kernel_rfl
theorem tyk22 (cs:List AV)(o:Nat):pick1 (E1.types 22) cs o=lnth cs o:=zAS (by kernel_rfl) (by kernel_rfl) cs
theorem tys23:(E1.types 23).size=1:=by kernel_rfl
theorem tyd23:(E1.types 23).d=.slice 126:=by kernel_rfl
theorem tyb23:(E1.types 23).bytes=24:=by kernel_rfl
theorem tyz23:cellsOf (zAK (E1.types 23))=[.sl 0 [] .nil]:=by kernel_rfl
theorem tyo23:(E1.types 23).ok=true:=by kernel_rfl
theorem tyk23 (cs:List AV)(o:Nat):pick1 (E1.types 23) cs o=lnth cs o:=zAS (by kernel_rfl) (by kernel_rfl) cs
theorem tys24:(E1.types 24).size=1:=by kernel_rfl
theorem tyd24:(E1.types 24).d=.slice 108:=by kernel_rfl
theorem tyb24:(E1.types 24).bytes=24:=by kernel_rfl
theorem tyz24:cellsOf (zAK (E1.types 24))=[.sl 0 [] .nil]:=by kernel_rfl
theorem tyo24:(E1.types 24).ok=true:=by kernel_rfl
theorem tyk24 (cs:List AV)(o:Nat):pick1 (E1.types 24) cs o=lnth cs o:=zAS (by kernel_rfl) (by kernel_rfl) cs
theorem tys25:(E1.types 25).size=1:=by kernel_rfl
theorem tyd25:(E1.types 25).d=.slice 128:=by kernel_rfl
theorem tyb25:(E1.types 25).bytes=24:=by kernel_rfl
theorem tyz25:cellsOf (zAK (E1.types 25))=[.sl 0 [] .nil]:=by kernel_rfl
theorem tyo25:(E1.types 25).ok=true:=by kernel_rfl
theorem tyk25 (cs:List AV)(o:Nat):pick1 (E1.types 25) cs o=lnth cs o:=zAS (by kernel_rfl) (by kernel_rfl) cs
theorem tys26:(E1.types 26).size=1:=by kernel_rfl
theorem tyd26:(E1.types 26).d=.slice 34:=by kernel_rfl
theorem tyb26:(E1.types 26).bytes=24:=by kernel_rfl
theorem tyz26:cellsOf (zAK (E1.types 26))=[.sl 0 [] .nil]:=by kernel_rfl
theorem tyo26:(E1.types 26).ok=true:=by kernel_rfl
theorem tyk26 (cs:List AV)(o:Nat):pick1 (E1.types 26) cs o=lnth cs o:=zAS (by kernel_rfl) (by kernel_rfl) cs
theorem tys27:(E1.types 27).size=1:=by kernel_rfl
theorem tyd27:(E1.types 27).d=.slice 3:=by kernel_rfl
theorem tyb27:(E1.types 27).bytes=24:=by kernel_rfl
theorem tyz27:cellsOf (zAK (E1.types 27))=[.sl 0 [] .nil]:=by kernel_rfl
theorem tyo27:(E1.types 27).ok=true:=by kernel_rfl
theorem tyk27 (cs:List AV)(o:Nat):pick1 (E1.types 27) cs o=lnth cs o:=zAS (by kernel_rfl) (by kernel_rfl) cs
theorem tys29:(E1.types 29).size=2:=by kernel_rfl
theorem tyd29:(E1.types 29).d=.struct [(0,4),(1,27)]:=by kernel_rfl
theorem tyb29:(E1.types 29).bytes=32:=by kernel_rfl
theorem tyz29:cellsOf (zAK (E1.types 29))=[.bool false,.sl 0 [] .nil]:=by kernel_rfl
theorem tyo29:(E1.types 29).ok=true:=by kernel_rfl
theorem tys30:(E1.types 30).size=1:=by kernel_rfl
theorem tyd30:(E1.types 30).d=.slice 32:=by kernel_rfl
theorem tyb30:(E1.types 30).bytes=24:=by kernel_rfl
theorem tyz30:cellsOf (zAK (E1.types 30))=[.sl 0 [] .nil]:=by kernel_rfl
theorem tyo30:(E1.types 30).ok=true:=by kernel_rfl
theorem tyk30 (cs:List AV)(o:Nat):pick1 (E1.types 30) cs o=lnth cs o:=zAS (by kernel_rfl) (by kernel_rfl) cs
theorem tys32:(E1.types 32).size=7:=by kernel_rfl
theorem tyd32:(E1.types 32).d=.struct [(0,3),(1,3),(2,29),(4,9),(5,30),(6,30)]:=by kernel_rfl
theorem tyb32:(E1.types 32).bytes=112:=by kernel_rfl
theorem tyz32:cellsOf (zAK (E1.types 32))=[.int .i64 0,.int .i64 0,.bool false,.sl 0 [] .nil,.str [],.sl 0 [] .nil,.sl 0 [] .nil]:=by kernel_rfl
theorem tyo32:(E1.types 32).ok=true:=by kernel_rfl
theorem tys34:(E1.types 34).size=11:=by kernel_rfl
theorem tyd34:(E1.types 34).d=.struct [(0,3),(1,3),(2,22),(3,32),(10,26)]:=by kernel_rfl
theorem tyb34:(E1.types 34).bytes=176:=by kernel_rfl
theorem tyz34:cellsOf (zAK (E1.types 34))=[.int .i64 0,.int .i64 0,.sl 0 [] .nil,.int .i64 0,.int .i64 0,.bool false,.sl 0 [] .nil,.str [],.sl 0 [] .nil,.sl 0 [] .nil,.sl 0 [] .nil]:=by kernel_rfl
theorem tyo34:(E1.types 34).ok=true:=by kernel_rfl
theorem tys35:(E1.types 35).size=1:=by kernel_rfl
theorem tyd35:(E1.types 35).d=.slice 110:=by kernel_rfl
theorem tyb35:(E1.types 35).bytes=24:=by kernel_rfl
theorem tyz35:cellsOf (zAK (E1.types 35))=[.sl 0 [] .nil]:=by kernel_rfl
theorem tyo35:(E1.types 35).ok=true:=by kernel_rfl
theorem tyk35 (cs:List AV)(o:Nat):pick1 (E1.types 35) cs o=lnth cs o:=zAS (by kernel_rfl) (by kernel_rfl) cs
theorem tys36:(E1.types 36).size=1:=by kernel_rfl
theorem tyd36:(E1.types 36).d=.slice 130:=by kernel_rfl
theorem tyb36:(E1.types 36).bytes=24:=by kernel_rfl
theorem tyz36:cellsOf (zAK (E1.types 36))=[.sl 0 [] .nil]:=by kernel_rfl
theorem tyo36:(E1.types 36).ok=true:=by kernel_rfl
theorem tyk36 (cs:List AV)(o:Nat):pick1 (E1.types 36) cs o=lnth cs o:=zAS (by kernel_rfl) (by kernel_rfl) cs
theorem tys37:(E1.types 37).size=1:=by kernel_rfl
theorem tyd37:(E1.types 37).d=.slice 89:=by kernel_rfl
theorem tyb37:(E1.types 37).bytes=24:=by kernel_rfl
theorem tyz37:cellsOf (zAK (E1.types 37))=[.sl 0 [] .nil]:=by kernel_rfl
theorem tyo37:(E1.types 37).ok=true:=by kernel_rfl
theorem tyk37 (cs:List AV)(o:Nat):pick1 (E1.types 37) cs o=lnth cs o:=zAS (by kernel_rfl) (by kernel_rfl) cs
theorem tys38:(E1.types 38).size=1:=by kernel_rfl
theorem tyd38:(E1.types 38).d=.slice 22:=by kernel_rfl
theorem tyb38:(E1.types 38).bytes=24:=by kernel_rfl
theorem tyz38:cellsOf (zAK (E1.types 38))=[.sl 0 [] .nil]:=by kernel_rfl
theorem tyo38:(E1.types 38).ok=true:=by kernel_rfl
theorem tyk38 (cs:List AV)(o:Nat):pick1 (E1.types 38) cs o=lnth cs o:=zAS (by kernel_rfl) (by kernel_rfl) cs
theorem tys40:(E1.types 40).size=35:=by kernel_rfl
theorem tyd40:(E1.types 40).d=.struct [(0,22),(1,23),(2,24),(3,25),(4,26),(5,34),(16,34),(27,35),(28,36),(29,37),(30,26),(31,26),(32,38),(33,26),(34,4)]:=by kernel_rfl
theorem tyb40:(E1.types 40).bytes=648:=by kernel_rfl
theorem tyz40:cellsOf (zAK (E1.types 40))=[.sl 0 [] .nil,.sl 0 [] .nil,.sl 0 [] .nil,.sl 0 [] .nil,.sl 0 [] .nil,.int .i64 0,.int .i64 0,.sl 0 [] .nil,.int .i64 0,.int .i64 0,.bool false,.sl 0 [] .nil,.str [],.sl 0 [] .nil,.sl 0 [] .nil,.sl 0 [] .nil,.int .i64 0,.int .i64 0,.sl 0 [] .nil,.int .i64 0,.int .i64 0,.bool false,.sl 0 [] .nil,.str [],.sl 0 [] .nil,.sl 0 [] .nil,.sl 0 [] .nil,.sl 0 [] .nil,.sl 0 [] .nil,.sl 0 [] .nil,.sl 0 [] .nil,.sl 0 [] .nil,.sl 0 [] .nil,.sl 0 [] .nil,.bool false]:=by kernel_rfl
theorem tyo40:(E1.types 40).ok=true:=by kernel_rfl
theorem tys41:(E1.types 41).size=1:=by kernel_rfl
theorem tyd41:(E1.types 41).d=.slice 43:=by kernel_rfl
theorem tyb41:(E1.types 41).bytes=24:=by kernel_rfl
theorem tyz41:cellsOf (zAK (E1.types 41))=[.sl 0 [] .nil]:=by kernel_rfl
theorem tyo41:(E1.types 41).ok=true:=by kernel_rfl
theorem tyk41 (cs:List AV)(o:Nat):pick1 (E1.types 41) cs o=lnth cs o:=zAS (by kernel_rfl) (by kernel_rfl) cs
theorem tys43:(E1.types 43).size=24:=by kernel_rfl
theorem tyd43:(E1.types 43).d=.struct [(0,3),(1,34),(12,34),(23,41)]:=by kernel_rfl
theorem tyb43:(E1.types 43).bytes=384:=by kernel_rfl
theorem tyz43:cellsOf (zAK (E1.types 43))=[.int .i64 0,.int .i64 0,.int .i64 0,.sl 0 [] .nil,.int .i64 0,.int .i64 0,.bool false,.sl 0 [] .nil,.str [],.sl 0 [] .nil,.sl 0 [] .nil,.sl 0 [] .nil,.int .i64 0,.int .i64 0,.sl 0 [] .nil,.int .i64 0,.int .i64 0,.bool false,.sl 0 [] .nil,.str [],.sl 0 [] .nil,.sl 0 [] .nil,.sl 0 [] .nil,.sl 0 [] .nil]:=by kernel_rfl
theorem tyo43:(E1.types 43).ok=true:=by kernel_rfl
theorem tys44:(E1.types 44).size=1:=by kernel_rfl
theorem tyd44:(E1.types 44).d=.slice 30:=by kernel_rfl
theorem tyb44:(E1.types 44).bytes=24:=by kernel_rfl
theorem tyz44:cellsOf (zAK (E1.types 44))=[.sl 0 [] .nil]:=by kernel_rfl
theorem tyo44:(E1.types 44).ok=true:=by kernel_rfl
theorem tyk44 (cs:List AV)(o:Nat):pick1 (E1.types 44) cs o=lnth cs o:=zAS (by kernel_rfl) (by kernel_rfl) cs
theorem tys46:(E1.types 46).size=2:=by kernel_rfl
theorem tyd46:(E1.types 46).d=.struct [(0,44),(1,3)]:=by kernel_rfl
theorem tyb46:(E1.types 46).bytes=32:=by kernel_rfl
theorem tyz46:cellsOf (zAK (E1.types 46))=[.sl 0 [] .nil,.int .i64 0]:=by kernel_rfl
theorem tyo46:(E1.types 46).ok=true:=by kernel_rfl
theorem tys49:(E1.types 49).size=1:=by kernel_rfl
theorem tyd49:(E1.types 49).d=.slice 46:=by kernel_rfl
theorem tyb49:(E1.types 49).bytes=24:=by kernel_rfl
theorem tyz49:cellsOf (zAK (E1.types 49))=[.sl 0 [] .nil]:=by kernel_rfl
theorem tyo49:(E1.types 49).ok=true:=by kernel_rfl
theorem tyk49 (cs:List AV)(o:Nat):pick1 (E1.types 49) cs o=lnth cs o:=zAS (by kernel_rfl) (by kernel_rfl) cs
theorem tys50:(E1.types 50).size=1:=by kernel_rfl
theorem tyd50:(E1.types 50).d=.int .i64:=by kernel_rfl
theorem tyb50:(E1.types 50).bytes=8:=by kernel_rfl
theorem tyz50:cellsOf (zAK (E1.types 50))=[.int .i64 0]:=by kernel_rfl
theorem tyo50:(E1.types 50).ok=true:=by kernel_rfl
theorem tyk50 (cs:List AV)(o:Nat):pick1 (E1.types 50) cs o=lnth cs o:=zAS (by kernel_rfl) (by kernel_rfl) cs
theorem tys78:(E1.types 78).size=1:=by kernel_rfl
theorem tyd78:(E1.types 78).d=.ptr 80:=by kernel_rfl
theorem tyb78:(E1.types 78).bytes=8:=by kernel_rfl
theorem tyz78:cellsOf (zAK (E1.types 78))=[.nilptr]:=by kernel_rfl
theorem tyo78:(E1.types 78).ok=true:=by kernel_rfl
theorem tyk78 (cs:List AV)(o:Nat):pick1 (E1.types 78) cs o=lnth cs o:=zAS (by kernel_rfl) (by kernel_rfl) cs
theorem tys80:(E1.types 80).size=1:=by kernel_rfl
theorem tyd80:(E1.types 80).d=.struct [(0,3)]:=by kernel_rfl
theorem tyb80:(E1.types 80).bytes=8:=by kernel_rfl
theorem tyz80:cellsOf (zAK (E1.types 80))=[.int .i64 0]:=by kernel_rfl
theorem tyo80:(E1.types 80).ok=true:=by kernel_rfl
theorem tys85:(E1.types 85).size=1:=by kernel_rfl
theorem tyd85:(E1.types 85).d=.func:=by kernel_rfl
theorem tyb85:(E1.types 85).bytes=8:=by kernel_rfl
theorem tyz85:cellsOf (zAK (E1.types 85))=[.nilfunc]:=by kernel_rfl
theorem tyo85:(E1.types 85).ok=true:=by kernel_rfl
theorem tyk85 (cs:List AV)(o:Nat):pick1 (E1.types 85) cs o=lnth cs o:=zAS (by kernel_rfl) (by kernel_rfl) cs
theorem tys89:(E1.types 89).size=25:=by kernel_rfl
theorem tyd89:(E1.types 89).d=.struct [(0,9),(1,43)]:=by kernel_rfl
theorem tyb89:(E1.types 89).bytes=400:=by kernel_rfl
theorem tyz89:cellsOf (zAK (E1.types 89))=[.str [],.int .i64 0,.int .i64 0,.int .i64 0,.sl 0 [] .nil,.int .i64 0,.int .i64 0,.bool false,.sl 0 [] .nil,.str [],.sl 0 [] .nil,.sl 0 [] .nil,.sl 0 [] .nil,.int .i64 0,.int .i64 0,.sl 0 [] .nil,.int .i64 0,.int .i64 0,.bool false,.sl 0 [] .nil,.str [],.sl 0 [] .nil,.sl 0 [] .nil,.sl 0 [] .nil,.sl 0 [] .nil]:=by kernel_rfl
theorem tyo89:(E1.types 89).ok=true:=by kernel_rfl
theorem tys90:(E1.types 90).size=1:=by kernel_rfl
theorem tyd90:(E1.types 90).d=.func:=by kernel_rfl
theorem tyb90:(E1.types 90).bytes=8:=by kernel_rfl
theorem tyz90:cellsOf (zAK (E1.types 90))=[.nilfunc]:=by kernel_rfl
theorem tyo90:(E1.types 90).ok=true:=by kernel_rfl
theorem tyk90 (cs:List AV)(o:Nat):pick1 (E1.types 90) cs o=lnth cs o:=zAS (by kernel_rfl) (by kernel_rfl) cs
theorem tys93:(E1.types 93).size=1:=by kernel_rfl
theorem tyd93:(E1.types 93).d=.func:=by kernel_rfl
theorem tyb93:(E1.types 93).bytes=8:=by kernel_rfl
theorem tyz93:cellsOf (zAK (E1.types 93))=[.nilfunc]:=by kernel_rfl
theorem tyo93:(E1.types 93).ok=true:=by kernel_rfl
theorem tyk93 (cs:List AV)(o:Nat):pick1 (E1.types 93) cs o=lnth cs o:=zAS (by kernel_rfl) (by kernel_rfl) cs
theorem tys94:(E1.types 94).size=1:=by kernel_rfl
theorem tyd94:(E1.types 94).d=.func:=by kernel_rfl
theorem tyb94:(E1.types 94).bytes=8:=by kernel_rfl
theorem tyz94:cellsOf (zAK (E1.types 94))=[.nilfunc]:=by kernel_rfl
theorem tyo94:(E1.types 94).ok=true:=by kernel_rfl
theorem tyk94 (cs:List AV)(o:Nat):pick1 (E1.types 94) cs o=lnth cs o:=zAS (by kernel_rfl) (by kernel_rfl) cs
theorem tys108:(E1.types 108).size=12:=by kernel_rfl
theorem tyd108:(E1.types 108).d=.struct [(0,9),(1,34)]:=by kernel_rfl
theorem tyb108:(E1.types 108).bytes=192:=by kernel_rfl
theorem tyz108:cellsOf (zAK (E1.types 108))=[.str [],.int .i64 0,.int .i64 0,.sl 0 [] .nil,.int .i64 0,.int .i64 0,.bool false,.sl 0 [] .nil,.str [],.sl 0 [] .nil,.sl 0 [] .nil,.sl 0 [] .nil]:=by kernel_rfl
theorem tyo108:(E1.types 108).ok=true:=by kernel_rfl
theorem tys110:(E1.types 110).size=23:=by kernel_rfl
theorem tyd110:(E1.types 110).d=.struct [(0,4),(1,34),(12,34)]:=by kernel_rfl
theorem tyb110:(E1.types 110).bytes=360:=by kernel_rfl
theorem tyz110:cellsOf (zAK (E1.types 110))=[.bool false,.int .i64 0,.int .i64 0,.sl 0 [] .nil,.int .i64 0,.int .i64 0,.bool false,.sl 0 [] .nil,.str [],.sl 0 [] .nil,.sl 0 [] .nil,.sl 0 [] .nil,.int .i64 0,.int .i64 0,.sl 0 [] .nil,.int .i64 0,.int .i64 0,.bool false,.sl 0 [] .nil,.str [],.sl 0 [] .nil,.sl 0 [] .nil,.sl 0 [] .nil]:=by kernel_rfl
theorem tyo110:(E1.types 110).ok=true:=by kernel_rfl
theorem tys122:(E1.types 122).size=1:=by kernel_rfl
theorem tyd122:(E1.types 122).d=.func:=by kernel_rfl
theorem tyb122:(E1.types 122).bytes=8:=by kernel_rfl
theorem tyz122:cellsOf (zAK (E1.types 122))=[.nilfunc]:=by kernel_rfl
theorem tyo122:(E1.types 122).ok=true:=by kernel_rfl
theorem tyk122 (cs:List AV)(o:Nat):pick1 (E1.types 122) cs o=lnth cs o:=zAS (by kernel_rfl) (by kernel_rfl) cs
theorem tys123:(E1.types 123).size=1:=by kernel_rfl
theorem tyd123:(E1.types 123).d=.func:=by kernel_rfl
theorem tyb123:(E1.types 123).bytes=8:=by kernel_rfl
theorem tyz123:cellsOf (zAK (E1.types 123))=[.nilfunc]:=by kernel_rfl
theorem tyo123:(E1.types 123).ok=true:=by kernel_rfl
theorem tyk123 (cs:List AV)(o:Nat):pick1 (E1.types 123) cs o=lnth cs o:=zAS (by kernel_rfl) (by kernel_rfl) cs
theorem tys126:(E1.types 126).size=8:=by kernel_rfl
theorem tyd126:(E1.types 126).d=.struct [(0,9),(1,32)]:=by kernel_rfl
theorem tyb126:(E1.types 126).bytes=128:=by kernel_rfl
theorem tyz126:cellsOf (zAK (E1.types 126))=[.str [],.int .i64 0,.int .i64 0,.bool false,.sl 0 [] .nil,.str [],.sl 0 [] .nil,.sl 0 [] .nil]:=by kernel_rfl
theorem tyo126:(E1.types 126).ok=true:=by kernel_rfl
theorem tys128:(E1.types 128).size=14:=by kernel_rfl
theorem tyd128:(E1.types 128).d=.struct [(0,9),(1,27),(2,4),(3,34)]:=by kernel_rfl
theorem tyb128:(E1.types 128).bytes=224:=by kernel_rfl
theorem tyz128:cellsOf (zAK (E1.types 128))=[.str [],.sl 0 [] .nil,.bool false,.int .i64 0,.int .i64 0,.sl 0 [] .nil,.int .i64 0,.int .i64 0,.bool false,.sl 0 [] .nil,.str [],.sl 0 [] .nil,.sl 0 [] .nil,.sl 0 [] .nil]:=by kernel_rfl
theorem tyo128:(E1.types 128).ok=true:=by kernel_rfl
theorem tys130:(E1.types 130).size=12:=by kernel_rfl
theorem tyd130:(E1.types 130).d=.struct [(0,9),(1,34)]:=by kernel_rfl
theorem tyb130:(E1.types 130).bytes=192:=by kernel_rfl
theorem tyz130:cellsOf (zAK (E1.types 130))=[.str [],.int .i64 0,.int .i64 0,.sl 0 [] .nil,.int .i64 0,.int .i64 0,.bool false,.sl 0 [] .nil,.str [],.sl 0 [] .nil,.sl 0 [] .nil,.sl 0 [] .nil]:=by kernel_rfl
theorem tyo130:(E1.types 130).ok=true:=by kernel_rfl
theorem tys133:(E1.types 133).size=1:=by kernel_rfl
theorem tyd133:(E1.types 133).d=.func:=by kernel_rfl
theorem tyb133:(E1.types 133).bytes=8:=by kernel_rfl
theorem tyz133:cellsOf (zAK (E1.types 133))=[.nilfunc]:=by kernel_rfl
theorem tyo133:(E1.types 133).ok=true:=by kernel_rfl
theorem tyk133 (cs:List AV)(o:Nat):pick1 (E1.types 133) cs o=lnth cs o:=zAS (by kernel_rfl) (by kernel_rfl) cs
theorem tys135:(E1.types 135).size=1:=by kernel_rfl
theorem tyd135:(E1.types 135).d=.ptr 183:=by kernel_rfl
theorem tyb135:(E1.types 135).bytes=8:=by kernel_rfl
theorem tyz135:cellsOf (zAK (E1.types 135))=[.nilptr]:=by kernel_rfl
theorem tyo135:(E1.types 135).ok=true:=by kernel_rfl
theorem tyk135 (cs:List AV)(o:Nat):pick1 (E1.types 135) cs o=lnth cs o:=zAS (by kernel_rfl) (by kernel_rfl) cs
theorem tys137:(E1.types 137).size=1:=by kernel_rfl
theorem tyd137:(E1.types 137).d=.ptr 141:=by kernel_rfl
theorem tyb137:(E1.types 137).bytes=8:=by kernel_rfl
theorem tyz137:cellsOf (zAK (E1.types 137))=[.nilptr]:=by kernel_rfl
theorem tyo137:(E1.types 137).ok=true:=by kernel_rfl
theorem tyk137 (cs:List AV)(o:Nat):pick1 (E1.types 137) cs o=lnth cs o:=zAS (by kernel_rfl) (by kernel_rfl) cs
theorem tys138:(E1.types 138).size=1:=by kernel_rfl
theorem tyd138:(E1.types 138).d=.map 3 197:=by kernel_rfl
theorem tyb138:(E1.types 138).bytes=8:=by kernel_rfl
theorem tyz138:cellsOf (zAK (E1.types 138))=[.nilmap]:=by kernel_rfl
theorem tyo138:(E1.types 138).ok=true:=by kernel_rfl
theorem tyk138 (cs:List AV)(o:Nat):pick1 (E1.types 138) cs o=lnth cs o:=zAS (by kernel_rfl) (by kernel_rfl) cs
theorem tys141:(E1.types 141).size=38:=by kernel_rfl
theorem tyd141:(E1.types 141).d=.struct [(0,40),(35,138),(36,3),(37,3)]:=by kernel_rfl
theorem tyb141:(E1.types 141).bytes=672:=by kernel_rfl
theorem tyz141:cellsOf (zAK (E1.types 141))=[.sl 0 [] .nil,.sl 0 [] .nil,.sl 0 [] .nil,.sl 0 [] .nil,.sl 0 [] .nil,.int .i64 0,.int .i64 0,.sl 0 [] .nil,.int .i64 0,.int .i64 0,.bool false,.sl 0 [] .nil,.str [],.sl 0 [] .nil,.sl 0 [] .nil,.sl 0 [] .nil,.int .i64 0,.int .i64 0,.sl 0 [] .nil,.int .i64 0,.int .i64 0,.bool false,.sl 0 [] .nil,.str [],.sl 0 [] .nil,.sl 0 [] .nil,.sl 0 [] .nil,.sl 0 [] .nil,.sl 0 [] .nil,.sl 0 [] .nil,.sl 0 [] .nil,.sl 0 [] .nil,.sl 0 [] .nil,.sl 0 [] .nil,.bool false,.nilmap,.int .i64 0,.int .i64 0]:=by kernel_rfl
theorem tyo141:(E1.types 141).ok=true:=by kernel_rfl
theorem tys144:(E1.types 144).size=1:=by kernel_rfl
theorem tyd144:(E1.types 144).d=.ptr 146:=by kernel_rfl
theorem tyb144:(E1.types 144).bytes=8:=by kernel_rfl
theorem tyz144:cellsOf (zAK (E1.types 144))=[.nilptr]:=by kernel_rfl
theorem tyo144:(E1.types 144).ok=true:=by kernel_rfl
theorem tyk144 (cs:List AV)(o:Nat):pick1 (E1.types 144) cs o=lnth cs o:=zAS (by kernel_rfl) (by kernel_rfl) cs
theorem tys146:(E1.types 146).size=37:=by kernel_rfl
theorem tyd146:(E1.types 146).d=.struct [(0,40),(35,3),(36,3)]:=by kernel_rfl
theorem tyb146:(E1.types 146).bytes=664:=by kernel_rfl
theorem tyz146:cellsOf (zAK (E1.types 146))=[.sl 0 [] .nil,.sl 0 [] .nil,.sl 0 [] .nil,.sl 0 [] .nil,.sl 0 [] .nil,.int .i64 0,.int .i64 0,.sl 0 [] .nil,.int .i64 0,.int .i64 0,.bool false,.sl 0 [] .nil,.str [],.sl 0 [] .nil,.sl 0 [] .nil,.sl 0 [] .nil,.int .i64 0,.int .i64 0,.sl 0 [] .nil,.int .i64 0,.int .i64 0,.bool false,.sl 0 [] .nil,.str [],.sl 0 [] .nil,.sl 0 [] .nil,.sl 0 [] .nil,.sl 0 [] .nil,.sl 0 [] .nil,.sl 0 [] .nil,.sl 0 [] .nil,.sl 0 [] .nil,.sl 0 [] .nil,.sl 0 [] .nil,.bool false,.int .i64 0,.int .i64 0]:=by kernel_rfl
theorem tyo146:(E1.types 146).ok=true:=by kernel_rfl
theorem tys165:(E1.types 165).size=1:=by kernel_rfl
theorem tyd165:(E1.types 165).d=.func:=by kernel_rfl
theorem tyb165:(E1.types 165).bytes=8:=by kernel_rfl
theorem tyz165:cellsOf (zAK (E1.types 165))=[.nilfunc]:=by kernel_rfl
theorem tyo165:(E1.types 165).ok=true:=by kernel_rfl
theorem tyk165 (cs:List AV)(o:Nat):pick1 (E1.types 165) cs o=lnth cs o:=zAS (by kernel_rfl) (by kernel_rfl) cs
theorem tys175:(E1.types 175).size=1:=by kernel_rfl
theorem tyd175:(E1.types 175).d=.slice 26:=by kernel_rfl
theorem tyb175:(E1.types 175).bytes=24:=by kernel_rfl
theorem tyz175:cellsOf (zAK (E1.types 175))=[.sl 0 [] .nil]:=by kernel_rfl
theorem tyo175:(E1.types 175).ok=true:=by kernel_rfl
theorem tyk175 (cs:List AV)(o:Nat):pick1 (E1.types 175) cs o=lnth cs o:=zAS (by kernel_rfl) (by kernel_rfl) cs
theorem tys179:(E1.types 179).size=1:=by kernel_rfl
theorem tyd179:(E1.types 179).d=.func:=by kernel_rfl
theorem tyb179:(E1.types 179).bytes=8:=by kernel_rfl
theorem tyz179:cellsOf (zAK (E1.types 179))=[.nilfunc]:=by kernel_rfl
theorem tyo179:(E1.types 179).ok=true:=by kernel_rfl
theorem tyk179 (cs:List AV)(o:Nat):pick1 (E1.types 179) cs o=lnth cs o:=zAS (by kernel_rfl) (by kernel_rfl) cs
theorem tys180:(E1.types 180).size=1:=by kernel_rfl
theorem tyd180:(E1.types 180).d=.map 3 227:=by kernel_rfl
theorem tyb180:(E1.types 180).bytes=8:=by kernel_rfl
theorem tyz180:cellsOf (zAK (E1.types 180))=[.nilmap]:=by kernel_rfl
theorem tyo180:(E1.types 180).ok=true:=by kernel_rfl
theorem tyk180 (cs:List AV)(o:Nat):pick1 (E1.types 180) cs o=lnth cs o:=zAS (by kernel_rfl) (by kernel_rfl) cs
theorem tys183:(E1.types 183).size=38:=by kernel_rfl
theorem tyd183:(E1.types 183).d=.struct [(0,40),(35,180),(36,3),(37,122)]:=by kernel_rfl
theorem tyb183:(E1.types 183).bytes=672:=by kernel_rfl
theorem tyz183:cellsOf (zAK (E1.types 183))=[.sl 0 [] .nil,.sl 0 [] .nil,.sl 0 [] .nil,.sl 0 [] .nil,.sl 0 [] .nil,.int .i64 0,.int .i64 0,.sl 0 [] .nil,.int .i64 0,.int .i64 0,.bool false,.sl 0 [] .nil,.str [],.sl 0 [] .nil,.sl 0 [] .nil,.sl 0 [] .nil,.int .i64 0,.int .i64 0,.sl 0 [] .nil,.int .i64 0,.int .i64 0,.bool false,.sl 0 [] .nil,.str [],.sl 0 [] .nil,.sl 0 [] .nil,.sl 0 [] .nil,.sl 0 [] .nil,.sl 0 [] .nil,.sl 0 [] .nil,.sl 0 [] .nil,.sl 0 [] .nil,.sl 0 [] .nil,.sl 0 [] .nil,.bool false,.nilmap,.int .i64 0,.nilfunc]:=by kernel_rfl
theorem tyo183:(E1.types 183).ok=true:=by kernel_rfl
theorem tys186:(E1.types 186).size=1:=by kernel_rfl
theorem tyd186:(E1.types 186).d=.func:=by kernel_rfl
theorem tyb186:(E1.types 186).bytes=8:=by kernel_rfl
theorem tyz186:cellsOf (zAK (E1.types 186))=[.nilfunc]:=by kernel_rfl
theorem tyo186:(E1.types 186).ok=true:=by kernel_rfl
theorem tyk186 (cs:List AV)(o:Nat):pick1 (E1.types 186) cs o=lnth cs o:=zAS (by kernel_rfl) (by kernel_rfl) cs
theorem tys188:(E1.types 188).size=1:=by kernel_rfl
theorem tyd188:(E1.types 188).d=.func:=by kernel_rfl
theorem tyb188:(E1.types 188).bytes=8:=by kernel_rfl
theorem tyz188:cellsOf (zAK (E1.types 188))=[.nilfunc]:=by kernel_rfl
theorem tyo188:(E1.types 188).ok=true:=by kernel_rfl
theorem tyk188 (cs:List AV)(o:Nat):pick1 (E1.types 188) cs o=lnth cs o:=zAS (by kernel_rfl) (by kernel_rfl) cs
theorem tys190:(E1.types 190).size=1:=by kernel_rfl
theorem tyd190:(E1.types 190).d=.func:=by kernel_rfl
theorem tyb190:(E1.types 190).bytes=8:=by kernel_rfl
theorem tyz190:cellsOf (zAK (E1.types 190))=[.nilfunc]:=by kernel_rfl
theorem tyo190:(E1.types 190).ok=true:=by kernel_rfl
theorem tyk190 (cs:List AV)(o:Nat):pick1 (E1.types 190) cs o=lnth cs o:=zAS (by kernel_rfl) (by kernel_rfl) cs
theorem tys192:(E1.types 192).size=1:=by kernel_rfl
theorem tyd192:(E1.types 192).d=.func:=by kernel_rfl
theorem tyb192:(E1.types 192).bytes=8:=by kernel_rfl
theorem tyz192:cellsOf (zAK (E1.types 192))=[.nilfunc]:=by kernel_rfl
theorem tyo192:(E1.types 192).ok=true:=by kernel_rfl
theorem tyk192 (cs:List AV)(o:Nat):pick1 (E1.types 192) cs o=lnth cs o:=zAS (by kernel_rfl) (by kernel_rfl) cs
theorem tys194:(E1.types 194).size=1:=by kernel_rfl
theorem tyd194:(E1.types 194).d=.func:=by kernel_rfl
theorem tyb194:(E1.types 194).bytes=8:=by kernel_rfl
theorem tyz194:cellsOf (zAK (E1.types 194))=[.nilfunc]:=by kernel_rfl
theorem tyo194:(E1.types 194).ok=true:=by kernel_rfl
theorem tyk194 (cs:List AV)(o:Nat):pick1 (E1.types 194) cs o=lnth cs o:=zAS (by kernel_rfl) (by kernel_rfl) cs
theorem tys197:(E1.types 197).size=4:=by kernel_rfl
theorem tyd197:(E1.types 197).d=.struct [(0,3),(1,4),(2,4),(3,4)]:=by kernel_rfl
theorem tyb197:(E1.types 197).bytes=16:=by kernel_rfl
theorem tyz197:cellsOf (zAK (E1.types 197))=[.int .i64 0,.bool false,.bool false,.bool false]:=by kernel_rfl
theorem tyo197:(E1.types 197).ok=true:=by kernel_rfl
theorem tys198:(E1.types 198).size=1:=by kernel_rfl
theorem tyd198:(E1.types 198).d=.other:=by kernel_rfl
theorem tyb198:(E1.types 198).bytes=0:=by kernel_rfl
theorem tyz198:cellsOf (zAK (E1.types 198))=[undef]:=by kernel_rfl
theorem tyo198:(E1.types 198).ok=false:=by kernel_rfl
theorem tyk198 (cs:List AV)(o:Nat):pick1 (E1.types 198) cs o=lnth cs o:=zAS (by kernel_rfl) (by kernel_rfl) cs
theorem tys200:(E1.types 200).size=1:=by kernel_rfl
theorem tyd200:(E1.types 200).d=.other:=by kernel_rfl
theorem tyb200:(E1.types 200).bytes=0:=by kernel_rfl
theorem tyz200:cellsOf (zAK (E1.types 200))=[undef]:=by kernel_rfl
theorem tyo200:(E1.types 200).ok=false:=by kernel_rfl
theorem tyk200 (cs:List AV)(o:Nat):pick1 (E1.types 200) cs o=lnth cs o:=zAS (by kernel_rfl) (by kernel_rfl) cs
theorem tys202:(E1.types 202).size=1:=by kernel_rfl
theorem tyd202:(E1.types 202).d=.other:=by kernel_rfl
theorem tyb202:(E1.types 202).bytes=0:=by kernel_rfl
theorem tyz202:cellsOf (zAK (E1.types 202))=[undef]:=by kernel_rfl
theorem tyo202:(E1.types 202).ok=false:=by kernel_rfl
theorem tyk202 (cs:List AV)(o:Nat):pick1 (E1.types 202) cs o=lnth cs o:=zAS (by kernel_rfl) (by kernel_rfl) cs
theorem tys204:(E1.types 204).size=1:=by kernel_rfl
theorem tyd204:(E1.types 204).d=.func:=by kernel_rfl
theorem tyb204:(E1.types 204).bytes=8:=by kernel_rfl
theorem tyz204:cellsOf (zAK (E1.types 204))=[.nilfunc]:=by kernel_rfl
theorem tyo204:(E1.types 204).ok=true:=by kernel_rfl
theorem tyk204 (cs:List AV)(o:Nat):pick1 (E1.types 204) cs o=lnth cs o:=zAS (by kernel_rfl) (by kernel_rfl) cs
theorem tys205:(E1.types 205).size=1:=by kernel_rfl
theorem tyd205:(E1.types 205).d=.func:=by kernel_rfl
theorem tyb205:(E1.types 205).bytes=8:=by kernel_rfl
theorem tyz205:cellsOf (zAK (E1.types 205))=[.nilfunc]:=by kernel_rfl
theorem tyo205:(E1.types 205).ok=true:=by kernel_rfl
theorem tyk205 (cs:List AV)(o:Nat):pick1 (E1.types 205) cs o=lnth cs o:=zAS (by kernel_rfl) (by kernel_rfl) cs
theorem tys227:(E1.types 227).size=4:=by kernel_rfl
theorem tyd227:(E1.types 227).d=.struct [(0,3),(1,4),(2,4),(3,4)]:=by kernel_rfl
theorem tyb227:(E1.types 227).bytes=16:=by kernel_rfl
theorem tyz227:cellsOf (zAK (E1.types 227))=[.int .i64 0,.bool false,.bool false,.bool false]:=by kernel_rfl
theorem tyo227:(E1.types 227).ok=true:=by kernel_rfl
theorem tys232:(E1.types 232).size=1:=by kernel_rfl
theorem tyd232:(E1.types 232).d=.slice 5:=by kernel_rfl
theorem tyb232:(E1.types 232).bytes=24:=by kernel_rfl
theorem tyz232:cellsOf (zAK (E1.types 232))=[.sl 0 [] .nil]:=by kernel_rfl
theorem tyo232:(E1.types 232).ok=true:=by kernel_rfl
theorem tyk232 (cs:List AV)(o:Nat):pick1 (E1.types 232) cs o=lnth cs o:=zAS (by kernel_rfl) (by kernel_rfl) cs
theorem tys233:(E1.types 233).size=1:=by kernel_rfl
theorem tyd233:(E1.types 233).d=.func:=by kernel_rfl
theorem tyb233:(E1.types 233).bytes=8:=by kernel_rfl
theorem tyz233:cellsOf (zAK (E1.types 233))=[.nilfunc]:=by kernel_rfl
theorem tyo233:(E1.types 233).ok=true:=by kernel_rfl
theorem tyk233 (cs:List AV)(o:Nat):pick1 (E1.types 233) cs o=lnth cs o:=zAS (by kernel_rfl) (by kernel_rfl) cs
theorem tys235:(E1.types 235).size=1:=by kernel_rfl
theorem tyd235:(E1.types 235).d=.func:=by kernel_rfl
theorem tyb235:(E1.types 235).bytes=8:=by kernel_rfl
theorem tyz235:cellsOf (zAK (E1.types 235))=[.nilfunc]:=by kernel_rfl
theorem tyo235:(E1.types 235).ok=true:=by kernel_rfl
theorem tyk235 (cs:List AV)(o:Nat):pick1 (E1.types 235) cs o=lnth cs o:=zAS (by kernel_rfl) (by kernel_rfl) cs
theorem tys237:(E1.types 237).size=1:=by kernel_rfl
theorem tyd237:(E1.types 237).d=.slice 3:=by kernel_rfl
theorem tyb237:(E1.types 237).bytes=24:=by kernel_rfl
theorem tyz237:cellsOf (zAK (E1.types 237))=[.sl 0 [] .nil]:=by kernel_rfl
theorem tyo237:(E1.types 237).ok=true:=by kernel_rfl
theorem tyk237 (cs:List AV)(o:Nat):pick1 (E1.types 237) cs o=lnth cs o:=zAS (by kernel_rfl) (by kernel_rfl) cs
theorem tys244:(E1.types 244).size=1:=by kernel_rfl
theorem tyd244:(E1.types 244).d=.other:=by kernel_rfl
theorem tyb244:(E1.types 244).bytes=0:=by kernel_rfl
theorem tyz244:cellsOf (zAK (E1.types 244))=[undef]:=by kernel_rfl
theorem tyo244:(E1.types 244).ok=false:=by kernel_rfl
theorem tyk244 (cs:List AV)(o:Nat):pick1 (E1.types 244) cs o=lnth cs o:=zAS (by kernel_rfl) (by kernel_rfl) cs
theorem tys247:(E1.types 247).size=1:=by kernel_rfl
theorem tyd247:(E1.types 247).d=.other:=by kernel_rfl
theorem tyb247:(E1.types 247).bytes=0:=by kernel_rfl
theorem tyz247:cellsOf (zAK (E1.types 247))=[undef]:=by kernel_rfl
theorem tyo247:(E1.types 247).ok=false:=by kernel_rfl
theorem tyk247 (cs:List AV)(o:Nat):pick1 (E1.types 247) cs o=lnth cs o:=zAS (by kernel_rfl) (by kernel_rfl) cs
theorem tys249:(E1.types 249).size=37:=by kernel_rfl
theorem tyd249:(E1.types 249).d=.struct [(0,40),(35,3),(36,27)]:=by kernel_rfl
theorem tyb249:(E1.types 249).bytes=680:=by kernel_rfl
theorem tyz249:cellsOf (zAK (E1.types 249))=[.sl 0 [] .nil,.sl 0 [] .nil,.sl 0 [] .nil,.sl 0 [] .nil,.sl 0 [] .nil,.int .i64 0,.int .i64 0,.sl 0 [] .nil,.int .i64 0,.int .i64 0,.bool false,.sl 0 [] .nil,.str [],.sl 0 [] .nil,.sl 0 [] .nil,.sl 0 [] .nil,.int .i64 0,.int .i64 0,.sl 0 [] .nil,.int .i64 0,.int .i64 0,.bool false,.sl 0 [] .nil,.str [],.sl 0 [] .nil,.sl 0 [] .nil,.sl 0 [] .nil,.sl 0 [] .nil,.sl 0 [] .nil,.sl 0 [] .nil,.sl 0 [] .nil,.sl 0 [] .nil,.sl 0 [] .nil,.sl 0 [] .nil,.bool false,.int .i64 0,.sl 0 [] .nil]:=by kernel_rfl
theorem tyo249:(E1.types 249).ok=true:=by kernel_rfl
theorem tys273:(E1.types 273).size=1:=by kernel_rfl
theorem tyd273:(E1.types 273).d=.other:=by kernel_rfl
theorem tyb273:(E1.types 273).bytes=0:=by kernel_rfl
theorem tyz273:cellsOf (zAK (E1.types 273))=[undef]:=by kernel_rfl
theorem tyo273:(E1.types 273).ok=false:=by kernel_rfl
theorem tyk273 (cs:List AV)(o:Nat):pick1 (E1.types 273) cs o=lnth cs o:=zAS (by kernel_rfl) (by kernel_rfl) cs
attribute [go_sem] tys0 tyd0 tyb0 tyz0 tyo0 tyk0 tys3 tyd3 tyb3 tyz3 tyo3 tyk3 tys4 tyd4 tyb4 tyz4 tyo4 tyk4 tys5 tyd5 tyb5 tyz5 tyo5 tyk5 tys9 tyd9 tyb9 tyz9 tyo9 tyk9 tys20 tyd20 tyb20 tyz20 tyo20 tyk20 tys22 tyd22 tyb22 tyz22 tyo22 tyk22 tys23 tyd23 tyb23 tyz23 tyo23 tyk23 tys24 tyd24 tyb24 tyz24 tyo24 tyk24 tys25 tyd25 tyb25 tyz25 tyo25 tyk25 tys26 tyd26 tyb26 tyz26 tyo26 tyk26 tys27 tyd27 tyb27 tyz27 tyo27 tyk27 tys29 tyd29 tyb29 tyz29 tyo29 tys30 tyd30 tyb30 tyz30 tyo30 tyk30 tys32 tyd32 tyb32 tyz32 tyo32 tys34 tyd34 tyb34 tyz34 tyo34 tys35 tyd35 tyb35 tyz35 tyo35 tyk35 tys36 tyd36 tyb36 tyz36 tyo36 tyk36 tys37 tyd37 tyb37 tyz37 tyo37 tyk37 tys38 tyd38 tyb38 tyz38 tyo38 tyk38 tys40 tyd40 tyb40 tyz40 tyo40 tys41 tyd41 tyb41 tyz41 tyo41 tyk41 tys43 tyd43 tyb43 tyz43 tyo43 tys44 tyd44 tyb44 tyz44 tyo44 tyk44 tys46 tyd46 tyb46 tyz46 tyo46 tys49 tyd49 tyb49 tyz49 tyo49 tyk49 tys50 tyd50 tyb50 tyz50 tyo50 tyk50 tys78 tyd78 tyb78 tyz78 tyo78 tyk78 tys80 tyd80 tyb80 tyz80 tyo80 tys85 tyd85 tyb85 tyz85 tyo85 tyk85 tys89 tyd89 tyb89 tyz89 tyo89 tys90 tyd90 tyb90 tyz90 tyo90 tyk90 tys93 tyd93 tyb93 tyz93 tyo93 tyk93 tys94 tyd94 tyb94 tyz94 tyo94 tyk94 tys108 tyd108 tyb108 tyz108 tyo108 tys110 tyd110 tyb110 tyz110 tyo110 tys122 tyd122 tyb122 tyz122 tyo122 tyk122 tys123 tyd123 tyb123 tyz123 tyo123 tyk123 tys126 tyd126 tyb126 tyz126 tyo126 tys128 tyd128 tyb128 tyz128 tyo128 tys130 tyd130 tyb130 tyz130 tyo130 tys133 tyd133 tyb133 tyz133 tyo133 tyk133 tys135 tyd135 tyb135 tyz135 tyo135 tyk135 tys137 tyd137 tyb137 tyz137 tyo137 tyk137 tys138 tyd138 tyb138 tyz138 tyo138 tyk138 tys141 tyd141 tyb141 tyz141 tyo141 tys144 tyd144 tyb144 tyz144 tyo144 tyk144 tys146 tyd146 tyb146 tyz146 tyo146 tys165 tyd165 tyb165 tyz165 tyo165 tyk165 tys175 tyd175 tyb175 tyz175 tyo175 tyk175 tys179 tyd179 tyb179 tyz179 tyo179 tyk179 tys180 tyd180 tyb180 tyz180 tyo180 tyk180 tys183 tyd183 tyb183 tyz183 tyo183 tys186 tyd186 tyb186 tyz186 tyo186 tyk186 tys188 tyd188 tyb188 tyz188 tyo188 tyk188 tys190 tyd190 tyb190 tyz190 tyo190 tyk190 tys192 tyd192 tyb192 tyz192 tyo192 tyk192 tys194 tyd194 tyb194 tyz194 tyo194 tyk194 tys197 tyd197 tyb197 tyz197 tyo197 tys198 tyd198 tyb198 tyz198 tyo198 tyk198 tys200 tyd200 tyb200 tyz200 tyo200 tyk200 tys202 tyd202 tyb202 tyz202 tyo202 tyk202 tys204 tyd204 tyb204 tyz204 tyo204 tyk204 tys205 tyd205 tyb205 tyz205 tyo205 tyk205 tys227 tyd227 tyb227 tyz227 tyo227 tys232 tyd232 tyb232 tyz232 tyo232 tyk232 tys233 tyd233 tyb233 tyz233 tyo233 tyk233 tys235 tyd235 tyb235 tyz235 tyo235 tyk235 tys237 tyd237 tyb237 tyz237 tyo237 tyk237 tys244 tyd244 tyb244 tyz244 tyo244 tyk244 tys247 tyd247 tyb247 tyz247 tyo247 tyk247 tys249 tyd249 tyb249 tyz249 tyo249 tys273 tyd273 tyb273 tyz273 tyo273 tyk273
theorem pk_Def {a:Pl.Def}:pick1 (E1.types 128) (zBG a) 0=some (zCO a):=by kernel_rfl
theorem pd_Def3 {a:Pl.Def}:pick1 (E1.types 34) (List.drop 3 (zBG a)) 0=some (encX a.body):=by rw[zBQ];kernel_rfl
theorem pk_Def3 {a:Pl.Def}:pick1 (E1.types 34) (zBG a) 3=some (encX a.body):=by rw[zBQ];kernel_rfl
theorem pk_Var {a:Pl.Var}:pick1 (E1.types 108) (zDD a) 0=some (zDX a):=by kernel_rfl
theorem pd_Var1 {a:Pl.Var}:pick1 (E1.types 34) (List.drop 1 (zDD a)) 0=some (encX a.typ):=by rw[zBQ];kernel_rfl
theorem pk_Var1 {a:Pl.Var}:pick1 (E1.types 34) (zDD a) 1=some (encX a.typ):=by rw[zBQ];kernel_rfl
theorem zS8 {a:Pl.Const}:pick1 (E1.types 126) (zBX a) 0=some (zBF a):=by kernel_rfl
theorem zXF {a:Pl.Const}:pick1 (E1.types 32) (List.drop 1 (zBX a)) 0=some (encV a.v):=by rw[zFV];kernel_rfl
theorem zXB {a:Pl.Const}:pick1 (E1.types 32) (zBX a) 1=some (encV a.v):=by rw[zFV];kernel_rfl
theorem pk_Named {a:Pl.Named}:pick1 (E1.types 130) (zB5 a) 0=some (zBU a):=by kernel_rfl
theorem zXD {a:Pl.Named}:pick1 (E1.types 34) (List.drop 1 (zB5 a)) 0=some (encX a.e):=by rw[zBQ];kernel_rfl
theorem zW9 {a:Pl.Named}:pick1 (E1.types 34) (zB5 a) 1=some (encX a.e):=by rw[zBQ];kernel_rfl
theorem pk_Fair {a:Pl.Fair}:pick1 (E1.types 110) (zCD a) 0=some (zEO a):=by kernel_rfl
theorem pd_Fair1 {a:Pl.Fair}:pick1 (E1.types 34) (List.drop 1 (zCD a)) 0=some (encX a.a):=by rw[zBQ];kernel_rfl
theorem pk_Fair1 {a:Pl.Fair}:pick1 (E1.types 34) (zCD a) 1=some (encX a.a):=by rw[zBQ];kernel_rfl
theorem zXE {a:Pl.Fair}:pick1 (E1.types 34) (List.drop 12 (zCD a)) 0=some (encX a.sub):=by rw[zBQ];kernel_rfl
theorem zXA {a:Pl.Fair}:pick1 (E1.types 34) (zCD a) 12=some (encX a.sub):=by rw[zBQ];kernel_rfl
theorem zW8 {a:Pl.Prp}:pick1 (E1.types 89) (zDE a) 0=some (zDB a):=by kernel_rfl
theorem pk_Spec {a:Pl.Spec}:pick1 (E1.types 40) (zAC a) 0=some (zAN a):=by kernel_rfl
theorem pd_Spec5 {a:Pl.Spec}:pick1 (E1.types 34) (List.drop 5 (zAC a)) 0=some (encX a.init):=by rw[zBQ];kernel_rfl
theorem pk_Spec5 {a:Pl.Spec}:pick1 (E1.types 34) (zAC a) 5=some (encX a.init):=by rw[zBQ];kernel_rfl
theorem zXC {a:Pl.Spec}:pick1 (E1.types 34) (List.drop 16 (zAC a)) 0=some (encX a.next):=by rw[zBQ];kernel_rfl
theorem zW7 {a:Pl.Spec}:pick1 (E1.types 34) (zAC a) 16=some (encX a.next):=by rw[zBQ];kernel_rfl
theorem pk_V {a:Pl.V}:pick1 (E1.types 32) (zAW a) 0=some (encV a):=by rw[zFV];kernel_rfl
theorem pk_X {a:Pl.X}:pick1 (E1.types 34) (zAL a) 0=some (encX a):=by rw[zBQ];kernel_rfl
theorem pk_XV {a:Pl.X}:pick1 (E1.types 32) (zAL a) 3=some (encV a.v):=by rw[zFV];kernel_rfl
theorem pk_VI {a:Pl.V}:pick1 (E1.types 29) (zAW a) 2=some (.agg [.bool a.neg,.sl 0 (a.d.map iv) .shut]):=by kernel_rfl
theorem pk_XVI {a:Pl.X}:pick1 (E1.types 29) (zAL a) 5=some (.agg [.bool a.v.neg,.sl 0 (a.v.d.map iv) .shut]):=by kernel_rfl
theorem pk_Las {a:Pl.Las}:pick1 (E1.types 46) (zC1 a) 0=some (zC8 a):=by kernel_rfl
theorem nLas0 {a:Pl.Las}:lnth (zC1 a) 0=some (.sl 0 (a.st.map zD8) .shut):=(rfl)
theorem dLas0 {a:Pl.Las}:lnth (List.drop 0 (zC1 a)) 0=some (.sl 0 (a.st.map zD8) .shut):=(rfl)
theorem nLas1 {a:Pl.Las}:lnth (zC1 a) 1=some (.int .i64 a.back):=(rfl)
theorem dLas1 {a:Pl.Las}:lnth (List.drop 1 (zC1 a)) 0=some (.int .i64 a.back):=(rfl)
theorem nX0 {a:Pl.X}:lnth (zAL a) 0=some (.int .i64 a.kind):=(rfl)
theorem dX0 {a:Pl.X}:lnth (List.drop 0 (zAL a)) 0=some (.int .i64 a.kind):=(rfl)
theorem nX1 {a:Pl.X}:lnth (zAL a) 1=some (.int .i64 a.n):=(rfl)
theorem dX1 {a:Pl.X}:lnth (List.drop 1 (zAL a)) 0=some (.int .i64 a.n):=(rfl)
theorem nX2 {a:Pl.X}:lnth (zAL a) 2=some (.sl 0 (a.s.map AV.str) .shut):=(rfl)
theorem dX2 {a:Pl.X}:lnth (List.drop 2 (zAL a)) 0=some (.sl 0 (a.s.map AV.str) .shut):=(rfl)
theorem nX3 {a:Pl.X}:lnth (zAL a) 3=some (.int .i64 a.v.kind):=(rfl)
theorem dX3 {a:Pl.X}:lnth (List.drop 3 (zAL a)) 0=some (.int .i64 a.v.kind):=(rfl)
theorem nX4 {a:Pl.X}:lnth (zAL a) 4=some (.int .i64 a.v.n):=(rfl)
theorem dX4 {a:Pl.X}:lnth (List.drop 4 (zAL a)) 0=some (.int .i64 a.v.n):=(rfl)
theorem nX5 {a:Pl.X}:lnth (zAL a) 5=some (.bool a.v.neg):=(rfl)
theorem dX5 {a:Pl.X}:lnth (List.drop 5 (zAL a)) 0=some (.bool a.v.neg):=(rfl)
theorem nX6 {a:Pl.X}:lnth (zAL a) 6=some (.sl 0 (a.v.d.map iv) .shut):=(rfl)
theorem dX6 {a:Pl.X}:lnth (List.drop 6 (zAL a)) 0=some (.sl 0 (a.v.d.map iv) .shut):=(rfl)
theorem nX7 {a:Pl.X}:lnth (zAL a) 7=some (.str a.v.s):=(rfl)
theorem dX7 {a:Pl.X}:lnth (List.drop 7 (zAL a)) 0=some (.str a.v.s):=(rfl)
theorem nX8 {a:Pl.X}:lnth (zAL a) 8=some (.sl 0 (a.v.l.map encV) .shut):=(rfl)
theorem dX8 {a:Pl.X}:lnth (List.drop 8 (zAL a)) 0=some (.sl 0 (a.v.l.map encV) .shut):=(rfl)
theorem nX9 {a:Pl.X}:lnth (zAL a) 9=some (.sl 0 (a.v.m.map encV) .shut):=(rfl)
theorem dX9 {a:Pl.X}:lnth (List.drop 9 (zAL a)) 0=some (.sl 0 (a.v.m.map encV) .shut):=(rfl)
theorem nX10 {a:Pl.X}:lnth (zAL a) 10=some (.sl 0 (a.l.map encX) .shut):=(rfl)
theorem dX10 {a:Pl.X}:lnth (List.drop 10 (zAL a)) 0=some (.sl 0 (a.l.map encX) .shut):=(rfl)
theorem nV0 {a:Pl.V}:lnth (zAW a) 0=some (.int .i64 a.kind):=(rfl)
theorem dV0 {a:Pl.V}:lnth (List.drop 0 (zAW a)) 0=some (.int .i64 a.kind):=(rfl)
theorem nV1 {a:Pl.V}:lnth (zAW a) 1=some (.int .i64 a.n):=(rfl)
theorem dV1 {a:Pl.V}:lnth (List.drop 1 (zAW a)) 0=some (.int .i64 a.n):=(rfl)
theorem nV2 {a:Pl.V}:lnth (zAW a) 2=some (.bool a.neg):=(rfl)
theorem dV2 {a:Pl.V}:lnth (List.drop 2 (zAW a)) 0=some (.bool a.neg):=(rfl)
theorem nV3 {a:Pl.V}:lnth (zAW a) 3=some (.sl 0 (a.d.map iv) .shut):=(rfl)
theorem dV3 {a:Pl.V}:lnth (List.drop 3 (zAW a)) 0=some (.sl 0 (a.d.map iv) .shut):=(rfl)
theorem nV4 {a:Pl.V}:lnth (zAW a) 4=some (.str a.s):=(rfl)
theorem dV4 {a:Pl.V}:lnth (List.drop 4 (zAW a)) 0=some (.str a.s):=(rfl)
theorem nV5 {a:Pl.V}:lnth (zAW a) 5=some (.sl 0 (a.l.map encV) .shut):=(rfl)
theorem dV5 {a:Pl.V}:lnth (List.drop 5 (zAW a)) 0=some (.sl 0 (a.l.map encV) .shut):=(rfl)
theorem nV6 {a:Pl.V}:lnth (zAW a) 6=some (.sl 0 (a.m.map encV) .shut):=(rfl)
theorem dV6 {a:Pl.V}:lnth (List.drop 6 (zAW a)) 0=some (.sl 0 (a.m.map encV) .shut):=(rfl)
theorem nDef0 {a:Pl.Def}:lnth (zBG a) 0=some (.str a.name):=(rfl)
theorem dDef0 {a:Pl.Def}:lnth (List.drop 0 (zBG a)) 0=some (.str a.name):=(rfl)
theorem nDef1 {a:Pl.Def}:lnth (zBG a) 1=some (.sl 0 (a.params.map iv) .shut):=(rfl)
theorem dDef1 {a:Pl.Def}:lnth (List.drop 1 (zBG a)) 0=some (.sl 0 (a.params.map iv) .shut):=(rfl)
theorem nDef2 {a:Pl.Def}:lnth (zBG a) 2=some (.bool a.recu):=(rfl)
theorem dDef2 {a:Pl.Def}:lnth (List.drop 2 (zBG a)) 0=some (.bool a.recu):=(rfl)
theorem nVar0 {a:Pl.Var}:lnth (zDD a) 0=some (.str a.name):=(rfl)
theorem dVar0 {a:Pl.Var}:lnth (List.drop 0 (zDD a)) 0=some (.str a.name):=(rfl)
theorem nConst0 {a:Pl.Const}:lnth (zBX a) 0=some (.str a.name):=(rfl)
theorem dConst0 {a:Pl.Const}:lnth (List.drop 0 (zBX a)) 0=some (.str a.name):=(rfl)
theorem nNamed0 {a:Pl.Named}:lnth (zB5 a) 0=some (.str a.name):=(rfl)
theorem dNamed0 {a:Pl.Named}:lnth (List.drop 0 (zB5 a)) 0=some (.str a.name):=(rfl)
theorem nFair0 {a:Pl.Fair}:lnth (zCD a) 0=some (.bool a.strong):=(rfl)
theorem dFair0 {a:Pl.Fair}:lnth (List.drop 0 (zCD a)) 0=some (.bool a.strong):=(rfl)
theorem nPrp0 {a:Pl.Prp}:lnth (zDE a) 0=some (.str a.name):=(rfl)
theorem dPrp0 {a:Pl.Prp}:lnth (List.drop 0 (zDE a)) 0=some (.str a.name):=(rfl)
theorem nSpec0 {a:Pl.Spec}:lnth (zAC a) 0=some (.sl 0 (a.models.map AV.str) .shut):=(rfl)
theorem dSpec0 {a:Pl.Spec}:lnth (List.drop 0 (zAC a)) 0=some (.sl 0 (a.models.map AV.str) .shut):=(rfl)
theorem nSpec1 {a:Pl.Spec}:lnth (zAC a) 1=some (.sl 0 (a.consts.map zBF) .shut):=(rfl)
theorem dSpec1 {a:Pl.Spec}:lnth (List.drop 1 (zAC a)) 0=some (.sl 0 (a.consts.map zBF) .shut):=(rfl)
theorem nSpec2 {a:Pl.Spec}:lnth (zAC a) 2=some (.sl 0 (a.vars.map zDX) .shut):=(rfl)
theorem dSpec2 {a:Pl.Spec}:lnth (List.drop 2 (zAC a)) 0=some (.sl 0 (a.vars.map zDX) .shut):=(rfl)
theorem nSpec3 {a:Pl.Spec}:lnth (zAC a) 3=some (.sl 0 (a.defs.map zCO) .shut):=(rfl)
theorem dSpec3 {a:Pl.Spec}:lnth (List.drop 3 (zAC a)) 0=some (.sl 0 (a.defs.map zCO) .shut):=(rfl)
theorem nSpec4 {a:Pl.Spec}:lnth (zAC a) 4=some (.sl 0 (a.assume.map encX) .shut):=(rfl)
theorem dSpec4 {a:Pl.Spec}:lnth (List.drop 4 (zAC a)) 0=some (.sl 0 (a.assume.map encX) .shut):=(rfl)
theorem nSpec27 {a:Pl.Spec}:lnth (zAC a) 27=some (.sl 0 (a.fair.map zEO) .shut):=(rfl)
theorem dSpec27 {a:Pl.Spec}:lnth (List.drop 27 (zAC a)) 0=some (.sl 0 (a.fair.map zEO) .shut):=(rfl)
theorem nSpec28 {a:Pl.Spec}:lnth (zAC a) 28=some (.sl 0 (a.invs.map zBU) .shut):=(rfl)
theorem dSpec28 {a:Pl.Spec}:lnth (List.drop 28 (zAC a)) 0=some (.sl 0 (a.invs.map zBU) .shut):=(rfl)
theorem nSpec29 {a:Pl.Spec}:lnth (zAC a) 29=some (.sl 0 (a.props.map zDB) .shut):=(rfl)
theorem dSpec29 {a:Pl.Spec}:lnth (List.drop 29 (zAC a)) 0=some (.sl 0 (a.props.map zDB) .shut):=(rfl)
theorem nSpec30 {a:Pl.Spec}:lnth (zAC a) 30=some (.sl 0 (a.cons.map encX) .shut):=(rfl)
theorem dSpec30 {a:Pl.Spec}:lnth (List.drop 30 (zAC a)) 0=some (.sl 0 (a.cons.map encX) .shut):=(rfl)
theorem nSpec31 {a:Pl.Spec}:lnth (zAC a) 31=some (.sl 0 (a.acons.map encX) .shut):=(rfl)
theorem dSpec31 {a:Pl.Spec}:lnth (List.drop 31 (zAC a)) 0=some (.sl 0 (a.acons.map encX) .shut):=(rfl)
theorem nSpec32 {a:Pl.Spec}:lnth (zAC a) 32=some (.sl 0 (a.groups.map slS) .shut):=(rfl)
theorem dSpec32 {a:Pl.Spec}:lnth (List.drop 32 (zAC a)) 0=some (.sl 0 (a.groups.map slS) .shut):=(rfl)
theorem nSpec33 {a:Pl.Spec}:lnth (zAC a) 33=some (.sl 0 (a.view.map encX) .shut):=(rfl)
theorem dSpec33 {a:Pl.Spec}:lnth (List.drop 33 (zAC a)) 0=some (.sl 0 (a.view.map encX) .shut):=(rfl)
theorem nSpec34 {a:Pl.Spec}:lnth (zAC a) 34=some (.bool a.dead):=(rfl)
theorem dSpec34 {a:Pl.Spec}:lnth (List.drop 34 (zAC a)) 0=some (.bool a.dead):=(rfl)
theorem nPl0 {a:Pl.Spec}{d:Int}{sc:List Int}:lnth (zBA a d sc) 0=some (.sl 0 (a.models.map AV.str) .shut):=(rfl)
theorem nPl1 {a:Pl.Spec}{d:Int}{sc:List Int}:lnth (zBA a d sc) 1=some (.sl 0 (a.consts.map zBF) .shut):=(rfl)
theorem nPl2 {a:Pl.Spec}{d:Int}{sc:List Int}:lnth (zBA a d sc) 2=some (.sl 0 (a.vars.map zDX) .shut):=(rfl)
theorem nPl3 {a:Pl.Spec}{d:Int}{sc:List Int}:lnth (zBA a d sc) 3=some (.sl 0 (a.defs.map zCO) .shut):=(rfl)
theorem nPl4 {a:Pl.Spec}{d:Int}{sc:List Int}:lnth (zBA a d sc) 4=some (.sl 0 (a.assume.map encX) .shut):=(rfl)
theorem nPl27 {a:Pl.Spec}{d:Int}{sc:List Int}:lnth (zBA a d sc) 27=some (.sl 0 (a.fair.map zEO) .shut):=(rfl)
theorem nPl28 {a:Pl.Spec}{d:Int}{sc:List Int}:lnth (zBA a d sc) 28=some (.sl 0 (a.invs.map zBU) .shut):=(rfl)
theorem nPl29 {a:Pl.Spec}{d:Int}{sc:List Int}:lnth (zBA a d sc) 29=some (.sl 0 (a.props.map zDB) .shut):=(rfl)
theorem nPl30 {a:Pl.Spec}{d:Int}{sc:List Int}:lnth (zBA a d sc) 30=some (.sl 0 (a.cons.map encX) .shut):=(rfl)
theorem nPl31 {a:Pl.Spec}{d:Int}{sc:List Int}:lnth (zBA a d sc) 31=some (.sl 0 (a.acons.map encX) .shut):=(rfl)
theorem nPl32 {a:Pl.Spec}{d:Int}{sc:List Int}:lnth (zBA a d sc) 32=some (.sl 0 (a.groups.map slS) .shut):=(rfl)
theorem nPl33 {a:Pl.Spec}{d:Int}{sc:List Int}:lnth (zBA a d sc) 33=some (.sl 0 (a.view.map encX) .shut):=(rfl)
theorem nPl34 {a:Pl.Spec}{d:Int}{sc:List Int}:lnth (zBA a d sc) 34=some (.bool a.dead):=(rfl)
theorem nPl35 {a:Pl.Spec}{d:Int}{sc:List Int}:lnth (zBA a d sc) 35=some (.int .i64 d):=(rfl)
theorem nPl36 {a:Pl.Spec}{d:Int}{sc:List Int}:lnth (zBA a d sc) 36=some (.sl 0 (sc.map iv) .shut):=(rfl)
theorem pk_Pl {a:Pl.Spec}{d:Int}{sc:List Int}:pick1 (E1.types 249) (zBA a d sc) 0=some (zF9 a d sc):=by kernel_rfl
theorem pk_PlS {a:Pl.Spec}{d:Int}{sc:List Int}:pick1 (E1.types 40) (zBA a d sc) 0=some (zAN a):=by kernel_rfl
attribute [go_sem] pk_VI pk_XVI pk_V pk_X pk_XV pk_Def pk_Def3 pk_Var pk_Var1 zS8 zXB pk_Named zW9 pk_Fair pk_Fair1 zXA pk_Spec pk_Spec5 zW7 zW8 pk_Las nLas0 dLas0 nLas1 dLas1 nX0 dX0 nX1 dX1 nX2 dX2 nX3 dX3 nX4 dX4 nX5 dX5 nX6 dX6 nX7 dX7 nX8 dX8 nX9 dX9 nX10 dX10 nV0 dV0 nV1 dV1 nV2 dV2 nV3 dV3 nV4 dV4 nV5 dV5 nV6 dV6 nDef0 dDef0 nDef1 dDef1 nDef2 dDef2 nVar0 dVar0 nConst0 dConst0 nNamed0 dNamed0 nFair0 dFair0 nPrp0 dPrp0 nSpec0 dSpec0 nSpec1 dSpec1 nSpec2 dSpec2 nSpec3 dSpec3 nSpec4 dSpec4 nSpec27 dSpec27 nSpec28 dSpec28 nSpec29 dSpec29 nSpec30 dSpec30 nSpec31 dSpec31 nSpec32 dSpec32 nSpec33 dSpec33 nSpec34 dSpec34 nPl0 nPl1 nPl2 nPl3 nPl4 nPl27 nPl28 nPl29 nPl30 nPl31 nPl32 nPl33 nPl34 nPl35 nPl36 pk_Pl pk_PlS pd_Def3 pd_Var1 zXF zXD pd_Fair1 zXE pd_Spec5 zXC
theorem pl3_5:E1.plan 3 5=[.q 0,.q 1,.q 2,.q 4,.q 5,.q 6,.l 3,.chk 5,.chk 4,.l 7,.q 8,.q 9,.q 10,.q 12,.l 11,.chk 12,.l 13,.q 14,.q 15,.q 16,.q 17,.q 18,.q 20,.q 21,.l 19,.chk 21,.chk 20,.l 22,.q 23,.q 24,.l 25]:=by kernel_rfl
theorem pl10_6:E1.plan 10 6=[.q 0,.q 1,.q 2,.q 3,.q 4,.q 5,.q 6,.l 7,.q 8]:=by kernel_rfl
theorem pl49_1:E1.plan 49 1=[.q 0,.q 4,.q 5,.l 1,.chk 4,.chk 0,.q 2,.l 3,.chk 4,.l 6,.l 7]:=by kernel_rfl
theorem pl60_6:E1.plan 60 6=[.q 0,.q 1,.q 2,.q 3,.q 4,.q 5,.q 6,.q 7,.q 8,.q 9,.q 10,.q 11,.q 12,.q 13,.q 14,.q 15,.l 16,.q 17,.q 18]:=by kernel_rfl
theorem pl95_1:E1.plan 95 1=[.q 0,.l 1,.chk 0,.q 2,.l 3,.l 4]:=by kernel_rfl
theorem pl98_1:E1.plan 98 1=[.q 0,.q 1,.q 2,.q 3,.q 4,.q 5,.q 6,.q 7,.q 8,.q 9,.l 10,.chk 6,.chk 5,.chk 3,.chk 0,.l 11,.l 12]:=by kernel_rfl
theorem pl123_1:E1.plan 123 1=[.q 0,.q 1,.q 2,.q 3,.q 5,.q 6,.q 7,.q 8,.l 4,.chk 8,.chk 6,.l 9,.q 10,.l 11,.l 12]:=by kernel_rfl
theorem pl123_4:E1.plan 123 4=[.q 0,.q 1,.q 2,.q 3,.q 5,.q 6,.q 7,.q 8,.l 4,.chk 8,.chk 6,.l 9,.q 10,.l 11,.l 12]:=by kernel_rfl
theorem pl154_14:E1.plan 154 14=[.q 0,.q 1,.q 2,.q 3,.q 4,.l 5,.chk 2,.l 6,.q 7]:=by kernel_rfl
theorem pl156_6:E1.plan 156 6=[.q 0,.q 1,.q 2,.q 3,.q 4,.q 5,.q 6,.q 7,.q 8,.q 9,.q 10,.q 11,.q 12,.q 13,.q 14,.q 15,.q 16,.q 17,.q 18]:=by kernel_rfl
theorem pl156_7:E1.plan 156 7=[.q 0,.q 1,.q 2,.q 3,.q 4,.q 5,.q 6,.q 7,.q 8,.q 9,.q 10,.q 11,.q 12,.q 13,.q 14,.q 15,.q 16,.q 17,.l 18,.q 19]:=by kernel_rfl
theorem pl156_9:E1.plan 156 9=[.q 0,.q 1,.q 2,.q 3,.q 4,.q 7,.q 8,.l 5,.chk 1,.l 6,.chk 1,.l 9,.q 10]:=by kernel_rfl
theorem pl157_3:E1.plan 157 3=[.q 0,.q 1,.q 2,.q 3,.q 4,.q 5,.l 6,.q 7]:=by kernel_rfl
theorem pl157_5:E1.plan 157 5=[.q 0,.q 1,.q 2,.q 3,.q 4,.l 5,.chk 3,.q 6,.q 7,.q 8,.l 9]:=by kernel_rfl
theorem pl159_17:E1.plan 159 17=[.q 0,.q 1,.q 2,.q 3,.q 4,.q 5,.l 6,.q 7,.q 8,.q 9,.l 10,.l 11]:=by kernel_rfl
theorem pl163_3:E1.plan 163 3=[.q 0,.q 1,.q 2,.q 3,.q 4,.q 5,.l 6,.q 7]:=by kernel_rfl
theorem pl163_5:E1.plan 163 5=[.q 0,.q 1,.q 2,.q 3,.q 4,.l 5,.chk 3,.q 6,.q 7,.q 8,.l 9]:=by kernel_rfl
theorem pl179_9:E1.plan 179 9=[.q 0,.q 1,.q 2,.q 3,.q 4,.q 5,.q 6,.q 7,.q 8,.q 9,.l 10,.l 11]:=by kernel_rfl
theorem pl181_7:E1.plan 181 7=[.q 0,.q 1,.q 2,.q 3,.q 4,.q 5,.q 6,.q 7,.q 8,.l 9,.l 10]:=by kernel_rfl
theorem pl190_2:E1.plan 190 2=[.q 0,.q 1,.q 2,.q 3,.q 4,.q 5,.q 6,.l 7,.l 8]:=by kernel_rfl
theorem pl201_1:E1.plan 201 1=[.q 0,.q 1,.q 2,.q 3,.q 4,.q 5,.q 6,.q 7,.q 8,.q 9,.l 10,.chk 6,.chk 5,.chk 3,.l 11,.l 12]:=by kernel_rfl
theorem pl201_4:E1.plan 201 4=[.q 0,.q 1,.q 2,.q 3,.q 4,.l 5,.chk 4,.chk 3,.l 6]:=by kernel_rfl
theorem pl202_5:E1.plan 202 5=[.q 0,.q 1,.q 2,.q 3,.q 4,.q 5,.q 6,.q 7,.q 8,.q 9,.q 10,.q 11,.q 12,.q 13,.q 14,.q 15,.q 16,.q 17,.q 18,.q 19,.q 20,.q 21,.q 22,.q 23,.q 24,.q 25,.q 26,.l 27,.q 28,.q 29]:=by kernel_rfl
theorem pl202_7:E1.plan 202 7=[.q 0,.q 1,.q 2,.q 3,.q 4,.q 5,.q 6,.q 7,.q 8,.q 9,.l 10]:=by kernel_rfl
theorem pl202_10:E1.plan 202 10=[.q 0,.q 1,.q 2,.q 3,.q 4,.q 5,.q 6,.q 7,.q 8,.q 9,.q 10,.q 11,.q 12,.q 13,.q 14,.q 15,.q 16,.q 17,.q 18,.q 19,.q 20,.q 21,.q 22,.q 23,.q 24,.q 26,.q 27,.l 25,.chk 22,.chk 21,.chk 20,.l 28,.q 29,.l 30]:=by kernel_rfl
theorem pl208_4:E1.plan 208 4=[.q 0,.q 1,.q 2,.q 3,.l 4,.q 5,.q 6,.q 7,.q 8,.q 9,.q 10,.q 11,.q 12,.q 13,.l 14,.q 15]:=by kernel_rfl
theorem pl209_6:E1.plan 209 6=[.q 0,.q 1,.q 2,.q 3,.q 4,.q 5,.q 6,.q 7,.l 8,.q 9]:=by kernel_rfl
theorem pl210_11:E1.plan 210 11=[.q 0,.q 1,.q 2,.q 3,.q 4,.q 5,.l 6,.q 7,.q 8,.q 9,.q 10,.q 11,.q 12,.q 13,.l 14,.q 15]:=by kernel_rfl
theorem pl211_15:E1.plan 211 15=[.q 0,.q 1,.q 2,.q 3,.q 4,.q 5,.q 6,.q 7,.q 8]:=by kernel_rfl
theorem pl211_25:E1.plan 211 25=[.q 0,.q 1,.q 2,.q 3,.q 4,.q 5,.q 6,.q 7,.q 8,.q 9,.q 10,.q 11,.q 12,.q 13,.q 14,.l 15,.q 16,.q 17,.q 18,.l 19,.l 20]:=by kernel_rfl
theorem pl213_11:E1.plan 213 11=[.q 0,.q 1,.q 2,.q 3,.q 4,.q 5,.q 6,.q 7,.q 8,.q 9,.q 10,.q 11,.q 12,.q 13,.l 14,.l 15]:=by kernel_rfl
theorem pl214_9:E1.plan 214 9=[.q 0,.q 1,.q 2,.l 3,.chk 0,.l 4,.l 5,.l 6]:=by kernel_rfl
theorem pl214_10:E1.plan 214 10=[.q 0,.q 1,.q 2,.q 3,.q 4,.q 5,.q 6,.q 7,.q 8,.q 10,.l 9,.chk 5,.chk 4,.chk 2,.chk 0,.l 11,.q 12,.q 13,.q 14,.l 15,.l 16]:=by kernel_rfl
theorem pl216_4:E1.plan 216 4=[.q 0,.q 1,.q 2,.q 3,.q 4,.q 5,.q 6,.q 7,.q 8,.l 9,.q 10]:=by kernel_rfl
theorem pl220_7:E1.plan 220 7=[.q 0,.q 1,.l 2,.chk 1,.l 3]:=by kernel_rfl
theorem pl226_4:E1.plan 226 4=[.q 0,.q 1,.q 2,.q 3,.q 4,.q 5,.q 6,.q 7,.q 8,.l 9,.q 10]:=by kernel_rfl
theorem pl231_6:E1.plan 231 6=[.q 0,.q 1,.q 2,.q 3,.q 4,.q 5,.q 6,.q 7,.l 8,.l 9]:=by kernel_rfl
theorem pl252_1:E1.plan 252 1=[.q 0,.q 2,.q 3,.q 4,.l 1,.chk 2,.l 5,.l 6]:=by kernel_rfl
theorem pl270_6:E1.plan 270 6=[.q 0,.q 1,.q 2,.q 3,.q 4,.q 5,.q 6,.q 7,.q 8]:=by kernel_rfl
theorem pl270_7:E1.plan 270 7=[.q 0,.q 1,.q 2,.q 3,.q 4,.q 5,.q 6,.q 7,.l 8,.l 9]:=by kernel_rfl
theorem pl323_4:E1.plan 323 4=[.q 0,.q 1,.q 2,.q 3,.l 4,.q 5,.q 6,.q 7,.q 8,.q 9,.q 10,.q 11,.q 12,.q 13,.q 14,.q 15,.q 16,.q 17,.q 18,.q 19,.q 20,.q 21]:=by kernel_rfl
theorem pl326_1:E1.plan 326 1=[.q 0,.q 1,.q 4,.l 2,.chk 4,.chk 0,.q 3,.l 5,.q 6,.q 7,.q 8,.l 9,.l 10]:=by kernel_rfl
attribute [go_sem] pl3_5 pl10_6 pl49_1 pl60_6 pl95_1 pl98_1 pl123_1 pl123_4 pl154_14 pl156_6 pl156_7 pl156_9 pl157_3 pl157_5 pl159_17 pl163_3 pl163_5 pl179_9 pl181_7 pl190_2 pl201_1 pl201_4 pl202_5 pl202_7 pl202_10 pl208_4 pl209_6 pl210_11 pl211_15 pl211_25 pl213_11 pl214_9 pl214_10 pl216_4 pl220_7 pl226_4 pl231_6 pl252_1 pl270_6 pl270_7 pl323_4 pl326_1
theorem md3:E1.mode 3=⟨true,false,false,false⟩:=by kernel_rfl
theorem md6:E1.mode 6=⟨true,false,false,false⟩:=by kernel_rfl
theorem md7:E1.mode 7=⟨true,false,false,false⟩:=by kernel_rfl
theorem md8:E1.mode 8=⟨true,false,false,false⟩:=by kernel_rfl
theorem md9:E1.mode 9=⟨true,false,false,false⟩:=by kernel_rfl
theorem md10:E1.mode 10=⟨true,false,false,false⟩:=by kernel_rfl
theorem md11:E1.mode 11=⟨true,false,false,false⟩:=by kernel_rfl
theorem md12:E1.mode 12=⟨true,false,false,false⟩:=by kernel_rfl
theorem md26:E1.mode 26=⟨true,false,false,false⟩:=by kernel_rfl
theorem md43:E1.mode 43=⟨false,false,false,false⟩:=by kernel_rfl
theorem md44:E1.mode 44=⟨false,false,false,false⟩:=by kernel_rfl
theorem md45:E1.mode 45=⟨false,false,false,false⟩:=by kernel_rfl
theorem md46:E1.mode 46=⟨false,false,false,false⟩:=by kernel_rfl
theorem md47:E1.mode 47=⟨false,false,false,false⟩:=by kernel_rfl
theorem md48:E1.mode 48=⟨true,false,false,false⟩:=by kernel_rfl
theorem md49:E1.mode 49=⟨true,false,false,false⟩:=by kernel_rfl
theorem md50:E1.mode 50=⟨true,false,false,false⟩:=by kernel_rfl
theorem md51:E1.mode 51=⟨true,false,false,false⟩:=by kernel_rfl
theorem md52:E1.mode 52=⟨false,false,false,false⟩:=by kernel_rfl
theorem md53:E1.mode 53=⟨false,false,false,false⟩:=by kernel_rfl
theorem md54:E1.mode 54=⟨false,false,false,false⟩:=by kernel_rfl
theorem md55:E1.mode 55=⟨false,false,false,false⟩:=by kernel_rfl
theorem md56:E1.mode 56=⟨false,false,false,false⟩:=by kernel_rfl
theorem md57:E1.mode 57=⟨true,false,false,false⟩:=by kernel_rfl
theorem md58:E1.mode 58=⟨true,false,false,false⟩:=by kernel_rfl
theorem md59:E1.mode 59=⟨false,false,false,false⟩:=by kernel_rfl
theorem md60:E1.mode 60=⟨true,false,false,false⟩:=by kernel_rfl
theorem md84:E1.mode 84=⟨false,false,false,false⟩:=by kernel_rfl
theorem md85:E1.mode 85=⟨false,false,false,false⟩:=by kernel_rfl
theorem md86:E1.mode 86=⟨false,false,false,false⟩:=by kernel_rfl
theorem md87:E1.mode 87=⟨false,false,false,false⟩:=by kernel_rfl
theorem md88:E1.mode 88=⟨false,false,true,false⟩:=by kernel_rfl
theorem md89:E1.mode 89=⟨false,false,false,false⟩:=by kernel_rfl
theorem md90:E1.mode 90=⟨false,false,false,false⟩:=by kernel_rfl
theorem md91:E1.mode 91=⟨false,false,false,false⟩:=by kernel_rfl
theorem md92:E1.mode 92=⟨false,false,false,false⟩:=by kernel_rfl
theorem md93:E1.mode 93=⟨false,false,false,false⟩:=by kernel_rfl
theorem md94:E1.mode 94=⟨false,false,false,false⟩:=by kernel_rfl
theorem md95:E1.mode 95=⟨false,false,false,false⟩:=by kernel_rfl
theorem md96:E1.mode 96=⟨false,false,false,false⟩:=by kernel_rfl
theorem md97:E1.mode 97=⟨false,false,false,false⟩:=by kernel_rfl
theorem md98:E1.mode 98=⟨false,false,false,false⟩:=by kernel_rfl
theorem md99:E1.mode 99=⟨true,false,false,false⟩:=by kernel_rfl
theorem md100:E1.mode 100=⟨true,false,false,false⟩:=by kernel_rfl
theorem md101:E1.mode 101=⟨true,false,false,false⟩:=by kernel_rfl
theorem md102:E1.mode 102=⟨true,false,false,false⟩:=by kernel_rfl
theorem md103:E1.mode 103=⟨false,false,false,false⟩:=by kernel_rfl
theorem md104:E1.mode 104=⟨false,false,false,false⟩:=by kernel_rfl
theorem md105:E1.mode 105=⟨false,false,false,false⟩:=by kernel_rfl
theorem md106:E1.mode 106=⟨true,false,false,false⟩:=by kernel_rfl
theorem md107:E1.mode 107=⟨false,false,false,false⟩:=by kernel_rfl
theorem md108:E1.mode 108=⟨true,false,false,false⟩:=by kernel_rfl
theorem md123:E1.mode 123=⟨true,false,false,false⟩:=by kernel_rfl
theorem md134:E1.mode 134=⟨false,true,true,false⟩:=by kernel_rfl
theorem md135:E1.mode 135=⟨false,false,false,false⟩:=by kernel_rfl
theorem md136:E1.mode 136=⟨false,false,false,false⟩:=by kernel_rfl
theorem md137:E1.mode 137=⟨false,false,false,false⟩:=by kernel_rfl
theorem md138:E1.mode 138=⟨false,false,false,false⟩:=by kernel_rfl
theorem md139:E1.mode 139=⟨false,false,false,false⟩:=by kernel_rfl
theorem md140:E1.mode 140=⟨true,false,false,false⟩:=by kernel_rfl
theorem md141:E1.mode 141=⟨true,false,false,false⟩:=by kernel_rfl
theorem md142:E1.mode 142=⟨false,false,false,false⟩:=by kernel_rfl
theorem md143:E1.mode 143=⟨false,false,false,false⟩:=by kernel_rfl
theorem md144:E1.mode 144=⟨false,false,false,false⟩:=by kernel_rfl
theorem md145:E1.mode 145=⟨false,false,false,false⟩:=by kernel_rfl
theorem md146:E1.mode 146=⟨false,false,false,false⟩:=by kernel_rfl
theorem md147:E1.mode 147=⟨false,false,false,false⟩:=by kernel_rfl
theorem md148:E1.mode 148=⟨false,false,false,false⟩:=by kernel_rfl
theorem md149:E1.mode 149=⟨false,false,false,false⟩:=by kernel_rfl
theorem md150:E1.mode 150=⟨false,false,false,false⟩:=by kernel_rfl
theorem md151:E1.mode 151=⟨false,false,false,false⟩:=by kernel_rfl
theorem md152:E1.mode 152=⟨false,false,false,false⟩:=by kernel_rfl
theorem md153:E1.mode 153=⟨false,false,false,false⟩:=by kernel_rfl
theorem md154:E1.mode 154=⟨false,false,false,false⟩:=by kernel_rfl
theorem md155:E1.mode 155=⟨false,false,false,false⟩:=by kernel_rfl
theorem md156:E1.mode 156=⟨false,false,false,false⟩:=by kernel_rfl
theorem md157:E1.mode 157=⟨false,false,false,false⟩:=by kernel_rfl
theorem md158:E1.mode 158=⟨false,false,false,false⟩:=by kernel_rfl
theorem md159:E1.mode 159=⟨true,false,false,false⟩:=by kernel_rfl
theorem md160:E1.mode 160=⟨true,false,false,false⟩:=by kernel_rfl
theorem md161:E1.mode 161=⟨true,false,false,false⟩:=by kernel_rfl
theorem md162:E1.mode 162=⟨true,false,false,false⟩:=by kernel_rfl
theorem md163:E1.mode 163=⟨false,false,false,false⟩:=by kernel_rfl
theorem md164:E1.mode 164=⟨true,false,false,false⟩:=by kernel_rfl
theorem md165:E1.mode 165=⟨false,false,false,false⟩:=by kernel_rfl
theorem md166:E1.mode 166=⟨true,false,false,false⟩:=by kernel_rfl
theorem md171:E1.mode 171=⟨true,false,false,false⟩:=by kernel_rfl
theorem md177:E1.mode 177=⟨true,false,false,false⟩:=by kernel_rfl
theorem md178:E1.mode 178=⟨true,false,false,false⟩:=by kernel_rfl
theorem md179:E1.mode 179=⟨true,false,false,false⟩:=by kernel_rfl
theorem md180:E1.mode 180=⟨true,false,false,false⟩:=by kernel_rfl
theorem md181:E1.mode 181=⟨false,false,false,false⟩:=by kernel_rfl
theorem md186:E1.mode 186=⟨false,false,false,false⟩:=by kernel_rfl
theorem md187:E1.mode 187=⟨true,false,false,false⟩:=by kernel_rfl
theorem md188:E1.mode 188=⟨true,false,false,false⟩:=by kernel_rfl
theorem md189:E1.mode 189=⟨false,false,false,false⟩:=by kernel_rfl
theorem md190:E1.mode 190=⟨false,false,false,false⟩:=by kernel_rfl
theorem md191:E1.mode 191=⟨false,false,false,false⟩:=by kernel_rfl
theorem md192:E1.mode 192=⟨false,false,false,false⟩:=by kernel_rfl
theorem md193:E1.mode 193=⟨false,false,false,false⟩:=by kernel_rfl
theorem md194:E1.mode 194=⟨false,false,false,false⟩:=by kernel_rfl
theorem md195:E1.mode 195=⟨false,false,false,false⟩:=by kernel_rfl
theorem md196:E1.mode 196=⟨false,false,false,false⟩:=by kernel_rfl
theorem md197:E1.mode 197=⟨false,false,false,false⟩:=by kernel_rfl
theorem md198:E1.mode 198=⟨false,false,false,false⟩:=by kernel_rfl
theorem md199:E1.mode 199=⟨false,false,true,false⟩:=by kernel_rfl
theorem md200:E1.mode 200=⟨false,false,false,false⟩:=by kernel_rfl
theorem md201:E1.mode 201=⟨false,false,false,false⟩:=by kernel_rfl
theorem md202:E1.mode 202=⟨false,false,false,false⟩:=by kernel_rfl
theorem md203:E1.mode 203=⟨true,false,false,false⟩:=by kernel_rfl
theorem md204:E1.mode 204=⟨true,false,false,false⟩:=by kernel_rfl
theorem md205:E1.mode 205=⟨true,false,false,false⟩:=by kernel_rfl
theorem md206:E1.mode 206=⟨true,false,false,false⟩:=by kernel_rfl
theorem md207:E1.mode 207=⟨true,false,false,false⟩:=by kernel_rfl
theorem md208:E1.mode 208=⟨true,false,false,false⟩:=by kernel_rfl
theorem md209:E1.mode 209=⟨true,false,false,false⟩:=by kernel_rfl
theorem md210:E1.mode 210=⟨true,false,false,false⟩:=by kernel_rfl
theorem md211:E1.mode 211=⟨true,false,false,false⟩:=by kernel_rfl
theorem md212:E1.mode 212=⟨true,false,false,false⟩:=by kernel_rfl
theorem md213:E1.mode 213=⟨true,false,false,false⟩:=by kernel_rfl
theorem md214:E1.mode 214=⟨true,false,false,false⟩:=by kernel_rfl
theorem md215:E1.mode 215=⟨true,false,false,false⟩:=by kernel_rfl
theorem md216:E1.mode 216=⟨true,false,false,false⟩:=by kernel_rfl
theorem md217:E1.mode 217=⟨true,false,false,false⟩:=by kernel_rfl
theorem md218:E1.mode 218=⟨true,false,false,false⟩:=by kernel_rfl
theorem md219:E1.mode 219=⟨true,false,false,false⟩:=by kernel_rfl
theorem md220:E1.mode 220=⟨true,false,false,false⟩:=by kernel_rfl
theorem md221:E1.mode 221=⟨false,false,false,false⟩:=by kernel_rfl
theorem md222:E1.mode 222=⟨false,false,false,false⟩:=by kernel_rfl
theorem md223:E1.mode 223=⟨false,false,false,false⟩:=by kernel_rfl
theorem md224:E1.mode 224=⟨true,false,false,false⟩:=by kernel_rfl
theorem md225:E1.mode 225=⟨true,false,false,false⟩:=by kernel_rfl
theorem md226:E1.mode 226=⟨true,false,false,false⟩:=by kernel_rfl
theorem md228:E1.mode 228=⟨true,false,false,false⟩:=by kernel_rfl
theorem md229:E1.mode 229=⟨true,false,false,false⟩:=by kernel_rfl
theorem md230:E1.mode 230=⟨false,false,false,false⟩:=by kernel_rfl
theorem md231:E1.mode 231=⟨true,false,false,false⟩:=by kernel_rfl
theorem md238:E1.mode 238=⟨true,false,false,false⟩:=by kernel_rfl
theorem md239:E1.mode 239=⟨true,false,false,false⟩:=by kernel_rfl
theorem md241:E1.mode 241=⟨true,false,false,false⟩:=by kernel_rfl
theorem md242:E1.mode 242=⟨true,false,false,false⟩:=by kernel_rfl
theorem md243:E1.mode 243=⟨false,false,false,false⟩:=by kernel_rfl
theorem md244:E1.mode 244=⟨false,false,false,false⟩:=by kernel_rfl
theorem md245:E1.mode 245=⟨false,false,false,false⟩:=by kernel_rfl
theorem md246:E1.mode 246=⟨false,false,false,false⟩:=by kernel_rfl
theorem md247:E1.mode 247=⟨true,false,false,false⟩:=by kernel_rfl
theorem md248:E1.mode 248=⟨true,false,false,false⟩:=by kernel_rfl
theorem md249:E1.mode 249=⟨false,false,false,false⟩:=by kernel_rfl
theorem md250:E1.mode 250=⟨false,false,false,false⟩:=by kernel_rfl
theorem md251:E1.mode 251=⟨false,false,true,false⟩:=by kernel_rfl
theorem md252:E1.mode 252=⟨true,false,false,false⟩:=by kernel_rfl
theorem md253:E1.mode 253=⟨true,false,false,false⟩:=by kernel_rfl
theorem md254:E1.mode 254=⟨true,false,false,false⟩:=by kernel_rfl
theorem md255:E1.mode 255=⟨true,false,false,false⟩:=by kernel_rfl
theorem md256:E1.mode 256=⟨true,false,false,false⟩:=by kernel_rfl
theorem md257:E1.mode 257=⟨true,false,false,false⟩:=by kernel_rfl
theorem md258:E1.mode 258=⟨true,false,false,false⟩:=by kernel_rfl
theorem md259:E1.mode 259=⟨true,false,false,false⟩:=by kernel_rfl
theorem md260:E1.mode 260=⟨true,false,false,false⟩:=by kernel_rfl
theorem md261:E1.mode 261=⟨true,false,false,false⟩:=by kernel_rfl
theorem md262:E1.mode 262=⟨true,false,false,false⟩:=by kernel_rfl
theorem md263:E1.mode 263=⟨true,false,false,false⟩:=by kernel_rfl
theorem md264:E1.mode 264=⟨true,false,false,false⟩:=by kernel_rfl
theorem md265:E1.mode 265=⟨true,false,false,false⟩:=by kernel_rfl
theorem md266:E1.mode 266=⟨true,false,false,false⟩:=by kernel_rfl
theorem md267:E1.mode 267=⟨false,false,false,false⟩:=by kernel_rfl
theorem md268:E1.mode 268=⟨true,false,false,false⟩:=by kernel_rfl
theorem md269:E1.mode 269=⟨true,false,false,false⟩:=by kernel_rfl
theorem md270:E1.mode 270=⟨true,false,false,false⟩:=by kernel_rfl
theorem md271:E1.mode 271=⟨true,false,false,false⟩:=by kernel_rfl
theorem md322:E1.mode 322=⟨true,false,false,false⟩:=by kernel_rfl
theorem md323:E1.mode 323=⟨true,false,false,false⟩:=by kernel_rfl
theorem md324:E1.mode 324=⟨true,false,false,false⟩:=by kernel_rfl
theorem md325:E1.mode 325=⟨true,false,false,false⟩:=by kernel_rfl
theorem md326:E1.mode 326=⟨true,false,false,false⟩:=by kernel_rfl
theorem md327:E1.mode 327=⟨true,false,false,false⟩:=by kernel_rfl
theorem md378:E1.mode 378=⟨true,false,false,false⟩:=by kernel_rfl
theorem md379:E1.mode 379=⟨true,false,false,false⟩:=by kernel_rfl
attribute [go_sem] md3 md6 md7 md8 md9 md10 md11 md12 md26 md43 md44 md45 md46 md47 md48 md49 md50 md51 md52 md53 md54 md55 md56 md57 md58 md59 md60 md84 md85 md86 md87 md88 md89 md90 md91 md92 md93 md94 md95 md96 md97 md98 md99 md100 md101 md102 md103 md104 md105 md106 md107 md108 md123 md134 md135 md136 md137 md138 md139 md140 md141 md142 md143 md144 md145 md146 md147 md148 md149 md150 md151 md152 md153 md154 md155 md156 md157 md158 md159 md160 md161 md162 md163 md164 md165 md166 md171 md177 md178 md179 md180 md181 md186 md187 md188 md189 md190 md191 md192 md193 md194 md195 md196 md197 md198 md199 md200 md201 md202 md203 md204 md205 md206 md207 md208 md209 md210 md211 md212 md213 md214 md215 md216 md217 md218 md219 md220 md221 md222 md223 md224 md225 md226 md228 md229 md230 md231 md238 md239 md241 md242 md243 md244 md245 md246 md247 md248 md249 md250 md251 md252 md253 md254 md255 md256 md257 md258 md259 md260 md261 md262 md263 md264 md265 md266 md267 md268 md269 md270 md271 md322 md323 md324 md325 md326 md327 md378 md379
end Go.Ab.X
end
