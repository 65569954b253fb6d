/- A part. -/
import Derived.Test.YtfjmlhpdcaeabaaGreatDoorX1
set_option linter.all false
noncomputable section
namespace Go.Ab.X
open Go Go.Ab Go.Proofs
set_option maxRecDepth 100000
def intr1 (f:Nat)(args:List AV):Option AV:=match intr f args with|some v=>some v|none=>bif Nat.beq f 4&&args.isEmpty then some (.bool true) else none
def E1:Env:=E.wi intr1
theorem tys0:(E1.types 0).size=1:=rfl
theorem tyd0:(E1.types 0).d=.other:=rfl
theorem tyb0:(E1.types 0).bytes=0:=rfl
theorem tyz0:cellsOf (zAP (E1.types 0))=[undef]:=by kernel_rfl
theorem tyo0:(E1.types 0).ok=false:=rfl
theorem tyk0 (cs:List AV)(o:Nat):pick1 (E1.types 0) cs o=lnth cs o:=zA3 (by kernel_rfl) (by kernel_rfl) cs
theorem tys3:(E1.types 3).size=1:=rfl
theorem tyd3:(E1.types 3).d=.int .i64:=rfl
theorem tyb3:(E1.types 3).bytes=8:=rfl
theorem tyz3:cellsOf (zAP (E1.types 3))=[.int .i64 0]:=by kernel_rfl
theorem tyo3:(E1.types 3).ok=true:=rfl
theorem tyk3 (cs:List AV)(o:Nat):pick1 (E1.types 3) cs o=lnth cs o:=zA3 (by kernel_rfl) (by kernel_rfl) cs
theorem tys4:(E1.types 4).size=1:=rfl
theorem tyd4:(E1.types 4).d=.bool:=rfl
theorem tyb4:(E1.types 4).bytes=1:=rfl
theorem tyz4:cellsOf (zAP (E1.types 4))=[.bool false]:=by kernel_rfl
theorem tyo4:(E1.types 4).ok=true:=rfl
theorem tyk4 (cs:List AV)(o:Nat):pick1 (E1.types 4) cs o=lnth cs o:=zA3 (by kernel_rfl) (by kernel_rfl) cs
theorem tys5:(E1.types 5).size=1:=rfl
theorem tyd5:(E1.types 5).d=.int .u8:=rfl
theorem tyb5:(E1.types 5).bytes=1:=rfl
theorem tyz5:cellsOf (zAP (E1.types 5))=[.int .u8 0]:=by kernel_rfl
theorem tyo5:(E1.types 5).ok=true:=rfl
theorem tyk5 (cs:List AV)(o:Nat):pick1 (E1.types 5) cs o=lnth cs o:=zA3 (by kernel_rfl) (by kernel_rfl) cs
theorem tys9:(E1.types 9).size=1:=rfl
theorem tyd9:(E1.types 9).d=.str:=rfl
theorem tyb9:(E1.types 9).bytes=16:=rfl
theorem tyz9:cellsOf (zAP (E1.types 9))=[.str []]:=by kernel_rfl
theorem tyo9:(E1.types 9).ok=true:=rfl
theorem tyk9 (cs:List AV)(o:Nat):pick1 (E1.types 9) cs o=lnth cs o:=zA3 (by kernel_rfl) (by kernel_rfl) cs
theorem tys20:(E1.types 20).size=1:=rfl
theorem tyd20:(E1.types 20).d=.iface:=rfl
theorem tyb20:(E1.types 20).bytes=16:=rfl
theorem tyz20:cellsOf (zAP (E1.types 20))=[.niliface]:=by kernel_rfl
theorem tyo20:(E1.types 20).ok=true:=rfl
theorem tyk20 (cs:List AV)(o:Nat):pick1 (E1.types 20) cs o=lnth cs o:=zA3 (by kernel_rfl) (by kernel_rfl) cs
theorem tys22:(E1.types 22).size=1:=rfl
theorem tyd22:(E1.types 22).d=.slice 9:=rfl
theorem tyb22:(E1.types 22).bytes=24:=rfl
theorem tyz22:cellsOf (zAP (E1.types 22))=[.sl 0 [] .nil]:=by kernel_rfl
theorem tyo22:(E1.types 22).ok=true:=rfl
theorem tyk22 (cs:List AV)(o:Nat):pick1 (E1.types 22) cs o=lnth cs o:=zA3 (by kernel_rfl) (by kernel_rfl) cs
theorem tys23:(E1.types 23).size=1:=rfl
theorem tyd23:(E1.types 23).d=.slice 107:=rfl
theorem tyb23:(E1.types 23).bytes=24:=rfl
theorem tyz23:cellsOf (zAP (E1.types 23))=[.sl 0 [] .nil]:=by kernel_rfl
theorem tyo23:(E1.types 23).ok=true:=rfl
theorem tyk23 (cs:List AV)(o:Nat):pick1 (E1.types 23) cs o=lnth cs o:=zA3 (by kernel_rfl) (by kernel_rfl) cs
theorem tys24:(E1.types 24).size=1:=rfl
theorem tyd24:(E1.types 24).d=.slice 82:=rfl
theorem tyb24:(E1.types 24).bytes=24:=rfl
theorem tyz24:cellsOf (zAP (E1.types 24))=[.sl 0 [] .nil]:=by kernel_rfl
theorem tyo24:(E1.types 24).ok=true:=rfl
theorem tyk24 (cs:List AV)(o:Nat):pick1 (E1.types 24) cs o=lnth cs o:=zA3 (by kernel_rfl) (by kernel_rfl) cs
theorem tys25:(E1.types 25).size=1:=rfl
theorem tyd25:(E1.types 25).d=.slice 110:=rfl
theorem tyb25:(E1.types 25).bytes=24:=rfl
theorem tyz25:cellsOf (zAP (E1.types 25))=[.sl 0 [] .nil]:=by kernel_rfl
theorem tyo25:(E1.types 25).ok=true:=rfl
theorem tyk25 (cs:List AV)(o:Nat):pick1 (E1.types 25) cs o=lnth cs o:=zA3 (by kernel_rfl) (by kernel_rfl) cs
theorem tys26:(E1.types 26).size=1:=rfl
theorem tyd26:(E1.types 26).d=.slice 34:=rfl
theorem tyb26:(E1.types 26).bytes=24:=rfl
theorem tyz26:cellsOf (zAP (E1.types 26))=[.sl 0 [] .nil]:=by kernel_rfl
theorem tyo26:(E1.types 26).ok=true:=rfl
theorem tyk26 (cs:List AV)(o:Nat):pick1 (E1.types 26) cs o=lnth cs o:=zA3 (by kernel_rfl) (by kernel_rfl) cs
theorem tys27:(E1.types 27).size=1:=rfl
theorem tyd27:(E1.types 27).d=.slice 3:=rfl
theorem tyb27:(E1.types 27).bytes=24:=rfl
theorem tyz27:cellsOf (zAP (E1.types 27))=[.sl 0 [] .nil]:=by kernel_rfl
theorem tyo27:(E1.types 27).ok=true:=rfl
theorem tyk27 (cs:List AV)(o:Nat):pick1 (E1.types 27) cs o=lnth cs o:=zA3 (by kernel_rfl) (by kernel_rfl) cs
theorem tys29:(E1.types 29).size=2:=rfl
theorem tyd29:(E1.types 29).d=.struct [(0,4),(1,27)]:=rfl
theorem tyb29:(E1.types 29).bytes=32:=rfl
theorem tyz29:cellsOf (zAP (E1.types 29))=[.bool false,.sl 0 [] .nil]:=by kernel_rfl
theorem tyo29:(E1.types 29).ok=true:=rfl
theorem tys30:(E1.types 30).size=1:=rfl
theorem tyd30:(E1.types 30).d=.slice 32:=rfl
theorem tyb30:(E1.types 30).bytes=24:=rfl
theorem tyz30:cellsOf (zAP (E1.types 30))=[.sl 0 [] .nil]:=by kernel_rfl
theorem tyo30:(E1.types 30).ok=true:=rfl
theorem tyk30 (cs:List AV)(o:Nat):pick1 (E1.types 30) cs o=lnth cs o:=zA3 (by kernel_rfl) (by kernel_rfl) cs
theorem tys32:(E1.types 32).size=7:=rfl
theorem tyd32:(E1.types 32).d=.struct [(0,3),(1,3),(2,29),(4,9),(5,30),(6,30)]:=rfl
theorem tyb32:(E1.types 32).bytes=112:=rfl
theorem tyz32:cellsOf (zAP (E1.types 32))=[.int .i64 0,.int .i64 0,.bool false,.sl 0 [] .nil,.str [],.sl 0 [] .nil,.sl 0 [] .nil]:=by kernel_rfl
theorem tyo32:(E1.types 32).ok=true:=rfl
theorem tys34:(E1.types 34).size=11:=rfl
theorem tyd34:(E1.types 34).d=.struct [(0,3),(1,3),(2,22),(3,32),(10,26)]:=rfl
theorem tyb34:(E1.types 34).bytes=176:=rfl
theorem tyz34:cellsOf (zAP (E1.types 34))=[.int .i64 0,.int .i64 0,.sl 0 [] .nil,.int .i64 0,.int .i64 0,.bool false,.sl 0 [] .nil,.str [],.sl 0 [] .nil,.sl 0 [] .nil,.sl 0 [] .nil]:=by kernel_rfl
theorem tyo34:(E1.types 34).ok=true:=rfl
theorem tys35:(E1.types 35).size=1:=rfl
theorem tyd35:(E1.types 35).d=.slice 112:=rfl
theorem tyb35:(E1.types 35).bytes=24:=rfl
theorem tyz35:cellsOf (zAP (E1.types 35))=[.sl 0 [] .nil]:=by kernel_rfl
theorem tyo35:(E1.types 35).ok=true:=rfl
theorem tyk35 (cs:List AV)(o:Nat):pick1 (E1.types 35) cs o=lnth cs o:=zA3 (by kernel_rfl) (by kernel_rfl) cs
theorem tys36:(E1.types 36).size=1:=rfl
theorem tyd36:(E1.types 36).d=.slice 114:=rfl
theorem tyb36:(E1.types 36).bytes=24:=rfl
theorem tyz36:cellsOf (zAP (E1.types 36))=[.sl 0 [] .nil]:=by kernel_rfl
theorem tyo36:(E1.types 36).ok=true:=rfl
theorem tyk36 (cs:List AV)(o:Nat):pick1 (E1.types 36) cs o=lnth cs o:=zA3 (by kernel_rfl) (by kernel_rfl) cs
theorem tys37:(E1.types 37).size=1:=rfl
theorem tyd37:(E1.types 37).d=.slice 136:=rfl
theorem tyb37:(E1.types 37).bytes=24:=rfl
theorem tyz37:cellsOf (zAP (E1.types 37))=[.sl 0 [] .nil]:=by kernel_rfl
theorem tyo37:(E1.types 37).ok=true:=rfl
theorem tyk37 (cs:List AV)(o:Nat):pick1 (E1.types 37) cs o=lnth cs o:=zA3 (by kernel_rfl) (by kernel_rfl) cs
theorem tys38:(E1.types 38).size=1:=rfl
theorem tyd38:(E1.types 38).d=.slice 22:=rfl
theorem tyb38:(E1.types 38).bytes=24:=rfl
theorem tyz38:cellsOf (zAP (E1.types 38))=[.sl 0 [] .nil]:=by kernel_rfl
theorem tyo38:(E1.types 38).ok=true:=rfl
theorem tyk38 (cs:List AV)(o:Nat):pick1 (E1.types 38) cs o=lnth cs o:=zA3 (by kernel_rfl) (by kernel_rfl) cs
theorem tys40:(E1.types 40).size=35:=rfl
theorem tyd40:(E1.types 40).d=.struct [(0,22),(1,23),(2,24),(3,25),(4,26),(5,34),(16,34),(27,35),(28,36),(29,37),(30,26),(31,26),(32,38),(33,26),(34,4)]:=rfl
theorem tyb40:(E1.types 40).bytes=648:=rfl
theorem tyz40:cellsOf (zAP (E1.types 40))=[.sl 0 [] .nil,.sl 0 [] .nil,.sl 0 [] .nil,.sl 0 [] .nil,.sl 0 [] .nil,.int .i64 0,.int .i64 0,.sl 0 [] .nil,.int .i64 0,.int .i64 0,.bool false,.sl 0 [] .nil,.str [],.sl 0 [] .nil,.sl 0 [] .nil,.sl 0 [] .nil,.int .i64 0,.int .i64 0,.sl 0 [] .nil,.int .i64 0,.int .i64 0,.bool false,.sl 0 [] .nil,.str [],.sl 0 [] .nil,.sl 0 [] .nil,.sl 0 [] .nil,.sl 0 [] .nil,.sl 0 [] .nil,.sl 0 [] .nil,.sl 0 [] .nil,.sl 0 [] .nil,.sl 0 [] .nil,.sl 0 [] .nil,.bool false]:=by kernel_rfl
theorem tyo40:(E1.types 40).ok=true:=rfl
theorem tys43:(E1.types 43).size=1:=rfl
theorem tyd43:(E1.types 43).d=.int .i64:=rfl
theorem tyb43:(E1.types 43).bytes=8:=rfl
theorem tyz43:cellsOf (zAP (E1.types 43))=[.int .i64 0]:=by kernel_rfl
theorem tyo43:(E1.types 43).ok=true:=rfl
theorem tyk43 (cs:List AV)(o:Nat):pick1 (E1.types 43) cs o=lnth cs o:=zA3 (by kernel_rfl) (by kernel_rfl) cs
theorem tys48:(E1.types 48).size=1:=rfl
theorem tyd48:(E1.types 48).d=.slice 30:=rfl
theorem tyb48:(E1.types 48).bytes=24:=rfl
theorem tyz48:cellsOf (zAP (E1.types 48))=[.sl 0 [] .nil]:=by kernel_rfl
theorem tyo48:(E1.types 48).ok=true:=rfl
theorem tyk48 (cs:List AV)(o:Nat):pick1 (E1.types 48) cs o=lnth cs o:=zA3 (by kernel_rfl) (by kernel_rfl) cs
theorem tys73:(E1.types 73).size=1:=rfl
theorem tyd73:(E1.types 73).d=.ptr 75:=rfl
theorem tyb73:(E1.types 73).bytes=8:=rfl
theorem tyz73:cellsOf (zAP (E1.types 73))=[.nilptr]:=by kernel_rfl
theorem tyo73:(E1.types 73).ok=true:=rfl
theorem tyk73 (cs:List AV)(o:Nat):pick1 (E1.types 73) cs o=lnth cs o:=zA3 (by kernel_rfl) (by kernel_rfl) cs
theorem tys75:(E1.types 75).size=1:=rfl
theorem tyd75:(E1.types 75).d=.struct [(0,3)]:=rfl
theorem tyb75:(E1.types 75).bytes=8:=rfl
theorem tyz75:cellsOf (zAP (E1.types 75))=[.int .i64 0]:=by kernel_rfl
theorem tyo75:(E1.types 75).ok=true:=rfl
theorem tys79:(E1.types 79).size=1:=rfl
theorem tyd79:(E1.types 79).d=.ptr 121:=rfl
theorem tyb79:(E1.types 79).bytes=8:=rfl
theorem tyz79:cellsOf (zAP (E1.types 79))=[.nilptr]:=by kernel_rfl
theorem tyo79:(E1.types 79).ok=true:=rfl
theorem tyk79 (cs:List AV)(o:Nat):pick1 (E1.types 79) cs o=lnth cs o:=zA3 (by kernel_rfl) (by kernel_rfl) cs
theorem tys82:(E1.types 82).size=12:=rfl
theorem tyd82:(E1.types 82).d=.struct [(0,9),(1,34)]:=rfl
theorem tyb82:(E1.types 82).bytes=192:=rfl
theorem tyz82:cellsOf (zAP (E1.types 82))=[.str [],.int .i64 0,.int .i64 0,.sl 0 [] .nil,.int .i64 0,.int .i64 0,.bool false,.sl 0 [] .nil,.str [],.sl 0 [] .nil,.sl 0 [] .nil,.sl 0 [] .nil]:=by kernel_rfl
theorem tyo82:(E1.types 82).ok=true:=rfl
theorem tys107:(E1.types 107).size=8:=rfl
theorem tyd107:(E1.types 107).d=.struct [(0,9),(1,32)]:=rfl
theorem tyb107:(E1.types 107).bytes=128:=rfl
theorem tyz107:cellsOf (zAP (E1.types 107))=[.str [],.int .i64 0,.int .i64 0,.bool false,.sl 0 [] .nil,.str [],.sl 0 [] .nil,.sl 0 [] .nil]:=by kernel_rfl
theorem tyo107:(E1.types 107).ok=true:=rfl
theorem tys108:(E1.types 108).size=1:=rfl
theorem tyd108:(E1.types 108).d=.func:=rfl
theorem tyb108:(E1.types 108).bytes=8:=rfl
theorem tyz108:cellsOf (zAP (E1.types 108))=[.nilfunc]:=by kernel_rfl
theorem tyo108:(E1.types 108).ok=true:=rfl
theorem tyk108 (cs:List AV)(o:Nat):pick1 (E1.types 108) cs o=lnth cs o:=zA3 (by kernel_rfl) (by kernel_rfl) cs
theorem tys110:(E1.types 110).size=14:=rfl
theorem tyd110:(E1.types 110).d=.struct [(0,9),(1,27),(2,4),(3,34)]:=rfl
theorem tyb110:(E1.types 110).bytes=224:=rfl
theorem tyz110:cellsOf (zAP (E1.types 110))=[.str [],.sl 0 [] .nil,.bool false,.int .i64 0,.int .i64 0,.sl 0 [] .nil,.int .i64 0,.int .i64 0,.bool false,.sl 0 [] .nil,.str [],.sl 0 [] .nil,.sl 0 [] .nil,.sl 0 [] .nil]:=by kernel_rfl
theorem tyo110:(E1.types 110).ok=true:=rfl
theorem tys112:(E1.types 112).size=23:=rfl
theorem tyd112:(E1.types 112).d=.struct [(0,4),(1,34),(12,34)]:=rfl
theorem tyb112:(E1.types 112).bytes=360:=rfl
theorem tyz112:cellsOf (zAP (E1.types 112))=[.bool false,.int .i64 0,.int .i64 0,.sl 0 [] .nil,.int .i64 0,.int .i64 0,.bool false,.sl 0 [] .nil,.str [],.sl 0 [] .nil,.sl 0 [] .nil,.sl 0 [] .nil,.int .i64 0,.int .i64 0,.sl 0 [] .nil,.int .i64 0,.int .i64 0,.bool false,.sl 0 [] .nil,.str [],.sl 0 [] .nil,.sl 0 [] .nil,.sl 0 [] .nil]:=by kernel_rfl
theorem tyo112:(E1.types 112).ok=true:=rfl
theorem tys114:(E1.types 114).size=12:=rfl
theorem tyd114:(E1.types 114).d=.struct [(0,9),(1,34)]:=rfl
theorem tyb114:(E1.types 114).bytes=192:=rfl
theorem tyz114:cellsOf (zAP (E1.types 114))=[.str [],.int .i64 0,.int .i64 0,.sl 0 [] .nil,.int .i64 0,.int .i64 0,.bool false,.sl 0 [] .nil,.str [],.sl 0 [] .nil,.sl 0 [] .nil,.sl 0 [] .nil]:=by kernel_rfl
theorem tyo114:(E1.types 114).ok=true:=rfl
theorem tys116:(E1.types 116).size=1:=rfl
theorem tyd116:(E1.types 116).d=.func:=rfl
theorem tyb116:(E1.types 116).bytes=8:=rfl
theorem tyz116:cellsOf (zAP (E1.types 116))=[.nilfunc]:=by kernel_rfl
theorem tyo116:(E1.types 116).ok=true:=rfl
theorem tyk116 (cs:List AV)(o:Nat):pick1 (E1.types 116) cs o=lnth cs o:=zA3 (by kernel_rfl) (by kernel_rfl) cs
theorem tys117:(E1.types 117).size=1:=rfl
theorem tyd117:(E1.types 117).d=.map 3 168:=rfl
theorem tyb117:(E1.types 117).bytes=8:=rfl
theorem tyz117:cellsOf (zAP (E1.types 117))=[.nilmap]:=by kernel_rfl
theorem tyo117:(E1.types 117).ok=true:=rfl
theorem tyk117 (cs:List AV)(o:Nat):pick1 (E1.types 117) cs o=lnth cs o:=zA3 (by kernel_rfl) (by kernel_rfl) cs
theorem tys119:(E1.types 119).size=1:=rfl
theorem tyd119:(E1.types 119).d=.func:=rfl
theorem tyb119:(E1.types 119).bytes=8:=rfl
theorem tyz119:cellsOf (zAP (E1.types 119))=[.nilfunc]:=by kernel_rfl
theorem tyo119:(E1.types 119).ok=true:=rfl
theorem tyk119 (cs:List AV)(o:Nat):pick1 (E1.types 119) cs o=lnth cs o:=zA3 (by kernel_rfl) (by kernel_rfl) cs
theorem tys121:(E1.types 121).size=38:=rfl
theorem tyd121:(E1.types 121).d=.struct [(0,40),(35,117),(36,3),(37,119)]:=rfl
theorem tyb121:(E1.types 121).bytes=672:=rfl
theorem tyz121:cellsOf (zAP (E1.types 121))=[.sl 0 [] .nil,.sl 0 [] .nil,.sl 0 [] .nil,.sl 0 [] .nil,.sl 0 [] .nil,.int .i64 0,.int .i64 0,.sl 0 [] .nil,.int .i64 0,.int .i64 0,.bool false,.sl 0 [] .nil,.str [],.sl 0 [] .nil,.sl 0 [] .nil,.sl 0 [] .nil,.int .i64 0,.int .i64 0,.sl 0 [] .nil,.int .i64 0,.int .i64 0,.bool false,.sl 0 [] .nil,.str [],.sl 0 [] .nil,.sl 0 [] .nil,.sl 0 [] .nil,.sl 0 [] .nil,.sl 0 [] .nil,.sl 0 [] .nil,.sl 0 [] .nil,.sl 0 [] .nil,.sl 0 [] .nil,.sl 0 [] .nil,.bool false,.nilmap,.int .i64 0,.nilfunc]:=by kernel_rfl
theorem tyo121:(E1.types 121).ok=true:=rfl
theorem tys124:(E1.types 124).size=1:=rfl
theorem tyd124:(E1.types 124).d=.func:=rfl
theorem tyb124:(E1.types 124).bytes=8:=rfl
theorem tyz124:cellsOf (zAP (E1.types 124))=[.nilfunc]:=by kernel_rfl
theorem tyo124:(E1.types 124).ok=true:=rfl
theorem tyk124 (cs:List AV)(o:Nat):pick1 (E1.types 124) cs o=lnth cs o:=zA3 (by kernel_rfl) (by kernel_rfl) cs
theorem tys126:(E1.types 126).size=1:=rfl
theorem tyd126:(E1.types 126).d=.func:=rfl
theorem tyb126:(E1.types 126).bytes=8:=rfl
theorem tyz126:cellsOf (zAP (E1.types 126))=[.nilfunc]:=by kernel_rfl
theorem tyo126:(E1.types 126).ok=true:=rfl
theorem tyk126 (cs:List AV)(o:Nat):pick1 (E1.types 126) cs o=lnth cs o:=zA3 (by kernel_rfl) (by kernel_rfl) cs
theorem tys128:(E1.types 128).size=1:=rfl
theorem tyd128:(E1.types 128).d=.func:=rfl
theorem tyb128:(E1.types 128).bytes=8:=rfl
theorem tyz128:cellsOf (zAP (E1.types 128))=[.nilfunc]:=by kernel_rfl
theorem tyo128:(E1.types 128).ok=true:=rfl
theorem tyk128 (cs:List AV)(o:Nat):pick1 (E1.types 128) cs o=lnth cs o:=zA3 (by kernel_rfl) (by kernel_rfl) cs
theorem tys130:(E1.types 130).size=1:=rfl
theorem tyd130:(E1.types 130).d=.func:=rfl
theorem tyb130:(E1.types 130).bytes=8:=rfl
theorem tyz130:cellsOf (zAP (E1.types 130))=[.nilfunc]:=by kernel_rfl
theorem tyo130:(E1.types 130).ok=true:=rfl
theorem tyk130 (cs:List AV)(o:Nat):pick1 (E1.types 130) cs o=lnth cs o:=zA3 (by kernel_rfl) (by kernel_rfl) cs
theorem tys132:(E1.types 132).size=1:=rfl
theorem tyd132:(E1.types 132).d=.slice 134:=rfl
theorem tyb132:(E1.types 132).bytes=24:=rfl
theorem tyz132:cellsOf (zAP (E1.types 132))=[.sl 0 [] .nil]:=by kernel_rfl
theorem tyo132:(E1.types 132).ok=true:=rfl
theorem tyk132 (cs:List AV)(o:Nat):pick1 (E1.types 132) cs o=lnth cs o:=zA3 (by kernel_rfl) (by kernel_rfl) cs
theorem tys134:(E1.types 134).size=24:=rfl
theorem tyd134:(E1.types 134).d=.struct [(0,3),(1,34),(12,34),(23,132)]:=rfl
theorem tyb134:(E1.types 134).bytes=384:=rfl
theorem tyz134:cellsOf (zAP (E1.types 134))=[.int .i64 0,.int .i64 0,.int .i64 0,.sl 0 [] .nil,.int .i64 0,.int .i64 0,.bool false,.sl 0 [] .nil,.str [],.sl 0 [] .nil,.sl 0 [] .nil,.sl 0 [] .nil,.int .i64 0,.int .i64 0,.sl 0 [] .nil,.int .i64 0,.int .i64 0,.bool false,.sl 0 [] .nil,.str [],.sl 0 [] .nil,.sl 0 [] .nil,.sl 0 [] .nil,.sl 0 [] .nil]:=by kernel_rfl
theorem tyo134:(E1.types 134).ok=true:=rfl
theorem tys136:(E1.types 136).size=25:=rfl
theorem tyd136:(E1.types 136).d=.struct [(0,9),(1,134)]:=rfl
theorem tyb136:(E1.types 136).bytes=400:=rfl
theorem tyz136:cellsOf (zAP (E1.types 136))=[.str [],.int .i64 0,.int .i64 0,.int .i64 0,.sl 0 [] .nil,.int .i64 0,.int .i64 0,.bool false,.sl 0 [] .nil,.str [],.sl 0 [] .nil,.sl 0 [] .nil,.sl 0 [] .nil,.int .i64 0,.int .i64 0,.sl 0 [] .nil,.int .i64 0,.int .i64 0,.bool false,.sl 0 [] .nil,.str [],.sl 0 [] .nil,.sl 0 [] .nil,.sl 0 [] .nil,.sl 0 [] .nil]:=by kernel_rfl
theorem tyo136:(E1.types 136).ok=true:=rfl
theorem tys137:(E1.types 137).size=1:=rfl
theorem tyd137:(E1.types 137).d=.func:=rfl
theorem tyb137:(E1.types 137).bytes=8:=rfl
theorem tyz137:cellsOf (zAP (E1.types 137))=[.nilfunc]:=by kernel_rfl
theorem tyo137:(E1.types 137).ok=true:=rfl
theorem tyk137 (cs:List AV)(o:Nat):pick1 (E1.types 137) cs o=lnth cs o:=zA3 (by kernel_rfl) (by kernel_rfl) cs
theorem tys141:(E1.types 141).size=1:=rfl
theorem tyd141:(E1.types 141).d=.func:=rfl
theorem tyb141:(E1.types 141).bytes=8:=rfl
theorem tyz141:cellsOf (zAP (E1.types 141))=[.nilfunc]:=by kernel_rfl
theorem tyo141:(E1.types 141).ok=true:=rfl
theorem tyk141 (cs:List AV)(o:Nat):pick1 (E1.types 141) cs o=lnth cs o:=zA3 (by kernel_rfl) (by kernel_rfl) cs
theorem tys143:(E1.types 143).size=1:=rfl
theorem tyd143:(E1.types 143).d=.slice 3:=rfl
theorem tyb143:(E1.types 143).bytes=24:=rfl
theorem tyz143:cellsOf (zAP (E1.types 143))=[.sl 0 [] .nil]:=by kernel_rfl
theorem tyo143:(E1.types 143).ok=true:=rfl
theorem tyk143 (cs:List AV)(o:Nat):pick1 (E1.types 143) cs o=lnth cs o:=zA3 (by kernel_rfl) (by kernel_rfl) cs
theorem tys149:(E1.types 149).size=1:=rfl
theorem tyd149:(E1.types 149).d=.func:=rfl
theorem tyb149:(E1.types 149).bytes=8:=rfl
theorem tyz149:cellsOf (zAP (E1.types 149))=[.nilfunc]:=by kernel_rfl
theorem tyo149:(E1.types 149).ok=true:=rfl
theorem tyk149 (cs:List AV)(o:Nat):pick1 (E1.types 149) cs o=lnth cs o:=zA3 (by kernel_rfl) (by kernel_rfl) cs
theorem tys161:(E1.types 161).size=1:=rfl
theorem tyd161:(E1.types 161).d=.other:=rfl
theorem tyb161:(E1.types 161).bytes=0:=rfl
theorem tyz161:cellsOf (zAP (E1.types 161))=[undef]:=by kernel_rfl
theorem tyo161:(E1.types 161).ok=false:=rfl
theorem tyk161 (cs:List AV)(o:Nat):pick1 (E1.types 161) cs o=lnth cs o:=zA3 (by kernel_rfl) (by kernel_rfl) cs
theorem tys168:(E1.types 168).size=4:=rfl
theorem tyd168:(E1.types 168).d=.struct [(0,3),(1,4),(2,4),(3,4)]:=rfl
theorem tyb168:(E1.types 168).bytes=16:=rfl
theorem tyz168:cellsOf (zAP (E1.types 168))=[.int .i64 0,.bool false,.bool false,.bool false]:=by kernel_rfl
theorem tyo168:(E1.types 168).ok=true:=rfl
theorem tys169:(E1.types 169).size=1:=rfl
theorem tyd169:(E1.types 169).d=.func:=rfl
theorem tyb169:(E1.types 169).bytes=8:=rfl
theorem tyz169:cellsOf (zAP (E1.types 169))=[.nilfunc]:=by kernel_rfl
theorem tyo169:(E1.types 169).ok=true:=rfl
theorem tyk169 (cs:List AV)(o:Nat):pick1 (E1.types 169) cs o=lnth cs o:=zA3 (by kernel_rfl) (by kernel_rfl) cs
theorem tys176:(E1.types 176).size=1:=rfl
theorem tyd176:(E1.types 176).d=.slice 5:=rfl
theorem tyb176:(E1.types 176).bytes=24:=rfl
theorem tyz176:cellsOf (zAP (E1.types 176))=[.sl 0 [] .nil]:=by kernel_rfl
theorem tyo176:(E1.types 176).ok=true:=rfl
theorem tyk176 (cs:List AV)(o:Nat):pick1 (E1.types 176) cs o=lnth cs o:=zA3 (by kernel_rfl) (by kernel_rfl) cs
theorem tys177:(E1.types 177).size=1:=rfl
theorem tyd177:(E1.types 177).d=.func:=rfl
theorem tyb177:(E1.types 177).bytes=8:=rfl
theorem tyz177:cellsOf (zAP (E1.types 177))=[.nilfunc]:=by kernel_rfl
theorem tyo177:(E1.types 177).ok=true:=rfl
theorem tyk177 (cs:List AV)(o:Nat):pick1 (E1.types 177) cs o=lnth cs o:=zA3 (by kernel_rfl) (by kernel_rfl) cs
theorem tys179:(E1.types 179).size=1:=rfl
theorem tyd179:(E1.types 179).d=.func:=rfl
theorem tyb179:(E1.types 179).bytes=8:=rfl
theorem tyz179:cellsOf (zAP (E1.types 179))=[.nilfunc]:=by kernel_rfl
theorem tyo179:(E1.types 179).ok=true:=rfl
theorem tyk179 (cs:List AV)(o:Nat):pick1 (E1.types 179) cs o=lnth cs o:=zA3 (by kernel_rfl) (by kernel_rfl) cs
theorem tys181:(E1.types 181).size=1:=rfl
theorem tyd181:(E1.types 181).d=.slice 26:=rfl
theorem tyb181:(E1.types 181).bytes=24:=rfl
theorem tyz181:cellsOf (zAP (E1.types 181))=[.sl 0 [] .nil]:=by kernel_rfl
theorem tyo181:(E1.types 181).ok=true:=rfl
theorem tyk181 (cs:List AV)(o:Nat):pick1 (E1.types 181) cs o=lnth cs o:=zA3 (by kernel_rfl) (by kernel_rfl) cs
theorem tys188:(E1.types 188).size=1:=rfl
theorem tyd188:(E1.types 188).d=.other:=rfl
theorem tyb188:(E1.types 188).bytes=0:=rfl
theorem tyz188:cellsOf (zAP (E1.types 188))=[undef]:=by kernel_rfl
theorem tyo188:(E1.types 188).ok=false:=rfl
theorem tyk188 (cs:List AV)(o:Nat):pick1 (E1.types 188) cs o=lnth cs o:=zA3 (by kernel_rfl) (by kernel_rfl) cs
theorem tys241:(E1.types 241).size=1:=rfl
theorem tyd241:(E1.types 241).d=.other:=rfl
theorem tyb241:(E1.types 241).bytes=0:=rfl
theorem tyz241:cellsOf (zAP (E1.types 241))=[undef]:=by kernel_rfl
theorem tyo241:(E1.types 241).ok=false:=rfl
theorem tyk241 (cs:List AV)(o:Nat):pick1 (E1.types 241) cs o=lnth cs o:=zA3 (by kernel_rfl) (by kernel_rfl) cs
theorem tys246:(E1.types 246).size=1:=rfl
theorem tyd246:(E1.types 246).d=.other:=rfl
theorem tyb246:(E1.types 246).bytes=0:=rfl
theorem tyz246:cellsOf (zAP (E1.types 246))=[undef]:=by kernel_rfl
theorem tyo246:(E1.types 246).ok=false:=rfl
theorem tyk246 (cs:List AV)(o:Nat):pick1 (E1.types 246) cs o=lnth cs o:=zA3 (by kernel_rfl) (by kernel_rfl) cs
theorem tys248:(E1.types 248).size=37:=rfl
theorem tyd248:(E1.types 248).d=.struct [(0,40),(35,3),(36,27)]:=rfl
theorem tyb248:(E1.types 248).bytes=680:=rfl
theorem tyz248:cellsOf (zAP (E1.types 248))=[.sl 0 [] .nil,.sl 0 [] .nil,.sl 0 [] .nil,.sl 0 [] .nil,.sl 0 [] .nil,.int .i64 0,.int .i64 0,.sl 0 [] .nil,.int .i64 0,.int .i64 0,.bool false,.sl 0 [] .nil,.str [],.sl 0 [] .nil,.sl 0 [] .nil,.sl 0 [] .nil,.int .i64 0,.int .i64 0,.sl 0 [] .nil,.int .i64 0,.int .i64 0,.bool false,.sl 0 [] .nil,.str [],.sl 0 [] .nil,.sl 0 [] .nil,.sl 0 [] .nil,.sl 0 [] .nil,.sl 0 [] .nil,.sl 0 [] .nil,.sl 0 [] .nil,.sl 0 [] .nil,.sl 0 [] .nil,.sl 0 [] .nil,.bool false,.int .i64 0,.sl 0 [] .nil]:=by kernel_rfl
theorem tyo248:(E1.types 248).ok=true:=rfl
theorem tys280:(E1.types 280).size=1:=rfl
theorem tyd280:(E1.types 280).d=.func:=rfl
theorem tyb280:(E1.types 280).bytes=8:=rfl
theorem tyz280:cellsOf (zAP (E1.types 280))=[.nilfunc]:=by kernel_rfl
theorem tyo280:(E1.types 280).ok=true:=rfl
theorem tyk280 (cs:List AV)(o:Nat):pick1 (E1.types 280) cs o=lnth cs o:=zA3 (by kernel_rfl) (by kernel_rfl) cs
theorem tys281:(E1.types 281).size=1:=rfl
theorem tyd281:(E1.types 281).d=.func:=rfl
theorem tyb281:(E1.types 281).bytes=8:=rfl
theorem tyz281:cellsOf (zAP (E1.types 281))=[.nilfunc]:=by kernel_rfl
theorem tyo281:(E1.types 281).ok=true:=rfl
theorem tyk281 (cs:List AV)(o:Nat):pick1 (E1.types 281) cs o=lnth cs o:=zA3 (by kernel_rfl) (by kernel_rfl) cs
attribute [go_sem] tys0 tyd0 tyb0 tyz0 tyo0 tyk0 tys3 tyd3 tyb3 tyz3 tyo3 tyk3 tys4 tyd4 tyb4 tyz4 tyo4 tyk4 tys5 tyd5 tyb5 tyz5 tyo5 tyk5 tys9 tyd9 tyb9 tyz9 tyo9 tyk9 tys20 tyd20 tyb20 tyz20 tyo20 tyk20 tys22 tyd22 tyb22 tyz22 tyo22 tyk22 tys23 tyd23 tyb23 tyz23 tyo23 tyk23 tys24 tyd24 tyb24 tyz24 tyo24 tyk24 tys25 tyd25 tyb25 tyz25 tyo25 tyk25 tys26 tyd26 tyb26 tyz26 tyo26 tyk26 tys27 tyd27 tyb27 tyz27 tyo27 tyk27 tys29 tyd29 tyb29 tyz29 tyo29 tys30 tyd30 tyb30 tyz30 tyo30 tyk30 tys32 tyd32 tyb32 tyz32 tyo32 tys34 tyd34 tyb34 tyz34 tyo34 tys35 tyd35 tyb35 tyz35 tyo35 tyk35 tys36 tyd36 tyb36 tyz36 tyo36 tyk36 tys37 tyd37 tyb37 tyz37 tyo37 tyk37 tys38 tyd38 tyb38 tyz38 tyo38 tyk38 tys40 tyd40 tyb40 tyz40 tyo40 tys43 tyd43 tyb43 tyz43 tyo43 tyk43 tys48 tyd48 tyb48 tyz48 tyo48 tyk48 tys73 tyd73 tyb73 tyz73 tyo73 tyk73 tys75 tyd75 tyb75 tyz75 tyo75 tys79 tyd79 tyb79 tyz79 tyo79 tyk79 tys82 tyd82 tyb82 tyz82 tyo82 tys107 tyd107 tyb107 tyz107 tyo107 tys108 tyd108 tyb108 tyz108 tyo108 tyk108 tys110 tyd110 tyb110 tyz110 tyo110 tys112 tyd112 tyb112 tyz112 tyo112 tys114 tyd114 tyb114 tyz114 tyo114 tys116 tyd116 tyb116 tyz116 tyo116 tyk116 tys117 tyd117 tyb117 tyz117 tyo117 tyk117 tys119 tyd119 tyb119 tyz119 tyo119 tyk119 tys121 tyd121 tyb121 tyz121 tyo121 tys124 tyd124 tyb124 tyz124 tyo124 tyk124 tys126 tyd126 tyb126 tyz126 tyo126 tyk126 tys128 tyd128 tyb128 tyz128 tyo128 tyk128 tys130 tyd130 tyb130 tyz130 tyo130 tyk130 tys132 tyd132 tyb132 tyz132 tyo132 tyk132 tys134 tyd134 tyb134 tyz134 tyo134 tys136 tyd136 tyb136 tyz136 tyo136 tys137 tyd137 tyb137 tyz137 tyo137 tyk137 tys141 tyd141 tyb141 tyz141 tyo141 tyk141 tys143 tyd143 tyb143 tyz143 tyo143 tyk143 tys149 tyd149 tyb149 tyz149 tyo149 tyk149 tys161 tyd161 tyb161 tyz161 tyo161 tyk161 tys168 tyd168 tyb168 tyz168 tyo168 tys169 tyd169 tyb169 tyz169 tyo169 tyk169 tys176 tyd176 tyb176 tyz176 tyo176 tyk176 tys177 tyd177 tyb177 tyz177 tyo177 tyk177 tys179 tyd179 tyb179 tyz179 tyo179 tyk179 tys181 tyd181 tyb181 tyz181 tyo181 tyk181 tys188 tyd188 tyb188 tyz188 tyo188 tyk188 tys241 tyd241 tyb241 tyz241 tyo241 tyk241 tys246 tyd246 tyb246 tyz246 tyo246 tyk246 tys248 tyd248 tyb248 tyz248 tyo248 tys280 tyd280 tyb280 tyz280 tyo280 tyk280 tys281 tyd281 tyb281 tyz281 tyo281 tyk281
theorem pk_Def {a:Pl.Def}:pick1 (E1.types 110) (zBC a) 0=some (zCH a):=by kernel_rfl
theorem pd_Def3 {a:Pl.Def}:pick1 (E1.types 34) (List.drop 3 (zBC a)) 0=some (encX a.body):=by rw[zBX];kernel_rfl
theorem pk_Def3 {a:Pl.Def}:pick1 (E1.types 34) (zBC a) 3=some (encX a.body):=by rw[zBX];kernel_rfl
theorem pk_Var {a:Pl.Var}:pick1 (E1.types 82) (zCR a) 0=some (zDL a):=by kernel_rfl
theorem pd_Var1 {a:Pl.Var}:pick1 (E1.types 34) (List.drop 1 (zCR a)) 0=some (encX a.typ):=by rw[zBX];kernel_rfl
theorem pk_Var1 {a:Pl.Var}:pick1 (E1.types 34) (zCR a) 1=some (encX a.typ):=by rw[zBX];kernel_rfl
theorem zSV {a:Pl.Const}:pick1 (E1.types 107) (zBL a) 0=some (zBE a):=by kernel_rfl
theorem zWX {a:Pl.Const}:pick1 (E1.types 32) (List.drop 1 (zBL a)) 0=some (encV a.v):=by rw[zGD];kernel_rfl
theorem zWT {a:Pl.Const}:pick1 (E1.types 32) (zBL a) 1=some (encV a.v):=by rw[zGD];kernel_rfl
theorem pk_Named {a:Pl.Named}:pick1 (E1.types 114) (zBU a) 0=some (zBQ a):=by kernel_rfl
theorem zWV {a:Pl.Named}:pick1 (E1.types 34) (List.drop 1 (zBU a)) 0=some (encX a.e):=by rw[zBX];kernel_rfl
theorem zWR {a:Pl.Named}:pick1 (E1.types 34) (zBU a) 1=some (encX a.e):=by rw[zBX];kernel_rfl
theorem pk_Fair {a:Pl.Fair}:pick1 (E1.types 112) (zB2 a) 0=some (zEF a):=by kernel_rfl
theorem pd_Fair1 {a:Pl.Fair}:pick1 (E1.types 34) (List.drop 1 (zB2 a)) 0=some (encX a.a):=by rw[zBX];kernel_rfl
theorem pk_Fair1 {a:Pl.Fair}:pick1 (E1.types 34) (zB2 a) 1=some (encX a.a):=by rw[zBX];kernel_rfl
theorem zWW {a:Pl.Fair}:pick1 (E1.types 34) (List.drop 12 (zB2 a)) 0=some (encX a.sub):=by rw[zBX];kernel_rfl
theorem zWS {a:Pl.Fair}:pick1 (E1.types 34) (zB2 a) 12=some (encX a.sub):=by rw[zBX];kernel_rfl
theorem pk_Prp {a:Pl.Prp}:pick1 (E1.types 136) (zE8 a) 0=some (zD9 a):=by kernel_rfl
theorem pk_Spec {a:Pl.Spec}:pick1 (E1.types 40) (zAE a) 0=some (zAX a):=by kernel_rfl
theorem pd_Spec5 {a:Pl.Spec}:pick1 (E1.types 34) (List.drop 5 (zAE a)) 0=some (encX a.init):=by rw[zBX];kernel_rfl
theorem pk_Spec5 {a:Pl.Spec}:pick1 (E1.types 34) (zAE a) 5=some (encX a.init):=by rw[zBX];kernel_rfl
theorem zWU {a:Pl.Spec}:pick1 (E1.types 34) (List.drop 16 (zAE a)) 0=some (encX a.next):=by rw[zBX];kernel_rfl
theorem zWQ {a:Pl.Spec}:pick1 (E1.types 34) (zAE a) 16=some (encX a.next):=by rw[zBX];kernel_rfl
theorem pk_V {a:Pl.V}:pick1 (E1.types 32) (zAZ a) 0=some (encV a):=by rw[zGD];kernel_rfl
theorem pk_X {a:Pl.X}:pick1 (E1.types 34) (zAO a) 0=some (encX a):=by rw[zBX];kernel_rfl
theorem pk_XV {a:Pl.X}:pick1 (E1.types 32) (zAO a) 3=some (encV a.v):=by rw[zGD];kernel_rfl
theorem pk_VI {a:Pl.V}:pick1 (E1.types 29) (zAZ a) 2=some (.agg [.bool a.neg,.sl 0 (a.d.map iv) .shut]):=by kernel_rfl
theorem pk_XVI {a:Pl.X}:pick1 (E1.types 29) (zAO a) 5=some (.agg [.bool a.v.neg,.sl 0 (a.v.d.map iv) .shut]):=by kernel_rfl
theorem nX0 {a:Pl.X}:lnth (zAO a) 0=some (.int .i64 a.kind):=(rfl)
theorem dX0 {a:Pl.X}:lnth (List.drop 0 (zAO a)) 0=some (.int .i64 a.kind):=(rfl)
theorem nX1 {a:Pl.X}:lnth (zAO a) 1=some (.int .i64 a.n):=(rfl)
theorem dX1 {a:Pl.X}:lnth (List.drop 1 (zAO a)) 0=some (.int .i64 a.n):=(rfl)
theorem nX2 {a:Pl.X}:lnth (zAO a) 2=some (.sl 0 (a.s.map AV.str) .shut):=(rfl)
theorem dX2 {a:Pl.X}:lnth (List.drop 2 (zAO a)) 0=some (.sl 0 (a.s.map AV.str) .shut):=(rfl)
theorem nX3 {a:Pl.X}:lnth (zAO a) 3=some (.int .i64 a.v.kind):=(rfl)
theorem dX3 {a:Pl.X}:lnth (List.drop 3 (zAO a)) 0=some (.int .i64 a.v.kind):=(rfl)
theorem nX4 {a:Pl.X}:lnth (zAO a) 4=some (.int .i64 a.v.n):=(rfl)
theorem dX4 {a:Pl.X}:lnth (List.drop 4 (zAO a)) 0=some (.int .i64 a.v.n):=(rfl)
theorem nX5 {a:Pl.X}:lnth (zAO a) 5=some (.bool a.v.neg):=(rfl)
theorem dX5 {a:Pl.X}:lnth (List.drop 5 (zAO a)) 0=some (.bool a.v.neg):=(rfl)
theorem nX6 {a:Pl.X}:lnth (zAO a) 6=some (.sl 0 (a.v.d.map iv) .shut):=(rfl)
theorem dX6 {a:Pl.X}:lnth (List.drop 6 (zAO a)) 0=some (.sl 0 (a.v.d.map iv) .shut):=(rfl)
theorem nX7 {a:Pl.X}:lnth (zAO a) 7=some (.str a.v.s):=(rfl)
theorem dX7 {a:Pl.X}:lnth (List.drop 7 (zAO a)) 0=some (.str a.v.s):=(rfl)
theorem nX8 {a:Pl.X}:lnth (zAO a) 8=some (.sl 0 (a.v.l.map encV) .shut):=(rfl)
theorem dX8 {a:Pl.X}:lnth (List.drop 8 (zAO a)) 0=some (.sl 0 (a.v.l.map encV) .shut):=(rfl)
theorem nX9 {a:Pl.X}:lnth (zAO a) 9=some (.sl 0 (a.v.m.map encV) .shut):=(rfl)
theorem dX9 {a:Pl.X}:lnth (List.drop 9 (zAO a)) 0=some (.sl 0 (a.v.m.map encV) .shut):=(rfl)
theorem nX10 {a:Pl.X}:lnth (zAO a) 10=some (.sl 0 (a.l.map encX) .shut):=(rfl)
theorem dX10 {a:Pl.X}:lnth (List.drop 10 (zAO a)) 0=some (.sl 0 (a.l.map encX) .shut):=(rfl)
theorem nV0 {a:Pl.V}:lnth (zAZ a) 0=some (.int .i64 a.kind):=(rfl)
theorem dV0 {a:Pl.V}:lnth (List.drop 0 (zAZ a)) 0=some (.int .i64 a.kind):=(rfl)
theorem nV1 {a:Pl.V}:lnth (zAZ a) 1=some (.int .i64 a.n):=(rfl)
theorem dV1 {a:Pl.V}:lnth (List.drop 1 (zAZ a)) 0=some (.int .i64 a.n):=(rfl)
theorem nV2 {a:Pl.V}:lnth (zAZ a) 2=some (.bool a.neg):=(rfl)
theorem dV2 {a:Pl.V}:lnth (List.drop 2 (zAZ a)) 0=some (.bool a.neg):=(rfl)
theorem nV3 {a:Pl.V}:lnth (zAZ a) 3=some (.sl 0 (a.d.map iv) .shut):=(rfl)
theorem dV3 {a:Pl.V}:lnth (List.drop 3 (zAZ a)) 0=some (.sl 0 (a.d.map iv) .shut):=(rfl)
theorem nV4 {a:Pl.V}:lnth (zAZ a) 4=some (.str a.s):=(rfl)
theorem dV4 {a:Pl.V}:lnth (List.drop 4 (zAZ a)) 0=some (.str a.s):=(rfl)
theorem nV5 {a:Pl.V}:lnth (zAZ a) 5=some (.sl 0 (a.l.map encV) .shut):=(rfl)
theorem dV5 {a:Pl.V}:lnth (List.drop 5 (zAZ a)) 0=some (.sl 0 (a.l.map encV) .shut):=(rfl)
theorem nV6 {a:Pl.V}:lnth (zAZ a) 6=some (.sl 0 (a.m.map encV) .shut):=(rfl)
theorem dV6 {a:Pl.V}:lnth (List.drop 6 (zAZ a)) 0=some (.sl 0 (a.m.map encV) .shut):=(rfl)
theorem nDef0 {a:Pl.Def}:lnth (zBC a) 0=some (.str a.name):=(rfl)
theorem dDef0 {a:Pl.Def}:lnth (List.drop 0 (zBC a)) 0=some (.str a.name):=(rfl)
theorem nDef1 {a:Pl.Def}:lnth (zBC a) 1=some (.sl 0 (a.params.map iv) .shut):=(rfl)
theorem dDef1 {a:Pl.Def}:lnth (List.drop 1 (zBC a)) 0=some (.sl 0 (a.params.map iv) .shut):=(rfl)
theorem nDef2 {a:Pl.Def}:lnth (zBC a) 2=some (.bool a.recu):=(rfl)
theorem dDef2 {a:Pl.Def}:lnth (List.drop 2 (zBC a)) 0=some (.bool a.recu):=(rfl)
theorem nVar0 {a:Pl.Var}:lnth (zCR a) 0=some (.str a.name):=(rfl)
theorem dVar0 {a:Pl.Var}:lnth (List.drop 0 (zCR a)) 0=some (.str a.name):=(rfl)
theorem nConst0 {a:Pl.Const}:lnth (zBL a) 0=some (.str a.name):=(rfl)
theorem dConst0 {a:Pl.Const}:lnth (List.drop 0 (zBL a)) 0=some (.str a.name):=(rfl)
theorem nNamed0 {a:Pl.Named}:lnth (zBU a) 0=some (.str a.name):=(rfl)
theorem dNamed0 {a:Pl.Named}:lnth (List.drop 0 (zBU a)) 0=some (.str a.name):=(rfl)
theorem nFair0 {a:Pl.Fair}:lnth (zB2 a) 0=some (.bool a.strong):=(rfl)
theorem dFair0 {a:Pl.Fair}:lnth (List.drop 0 (zB2 a)) 0=some (.bool a.strong):=(rfl)
theorem nPrp0 {a:Pl.Prp}:lnth (zE8 a) 0=some (.str a.name):=(rfl)
theorem dPrp0 {a:Pl.Prp}:lnth (List.drop 0 (zE8 a)) 0=some (.str a.name):=(rfl)
theorem nSpec0 {a:Pl.Spec}:lnth (zAE a) 0=some (.sl 0 (a.models.map AV.str) .shut):=(rfl)
theorem dSpec0 {a:Pl.Spec}:lnth (List.drop 0 (zAE a)) 0=some (.sl 0 (a.models.map AV.str) .shut):=(rfl)
theorem nSpec1 {a:Pl.Spec}:lnth (zAE a) 1=some (.sl 0 (a.consts.map zBE) .shut):=(rfl)
theorem dSpec1 {a:Pl.Spec}:lnth (List.drop 1 (zAE a)) 0=some (.sl 0 (a.consts.map zBE) .shut):=(rfl)
theorem nSpec2 {a:Pl.Spec}:lnth (zAE a) 2=some (.sl 0 (a.vars.map zDL) .shut):=(rfl)
theorem dSpec2 {a:Pl.Spec}:lnth (List.drop 2 (zAE a)) 0=some (.sl 0 (a.vars.map zDL) .shut):=(rfl)
theorem nSpec3 {a:Pl.Spec}:lnth (zAE a) 3=some (.sl 0 (a.defs.map zCH) .shut):=(rfl)
theorem dSpec3 {a:Pl.Spec}:lnth (List.drop 3 (zAE a)) 0=some (.sl 0 (a.defs.map zCH) .shut):=(rfl)
theorem nSpec4 {a:Pl.Spec}:lnth (zAE a) 4=some (.sl 0 (a.assume.map encX) .shut):=(rfl)
theorem dSpec4 {a:Pl.Spec}:lnth (List.drop 4 (zAE a)) 0=some (.sl 0 (a.assume.map encX) .shut):=(rfl)
theorem nSpec27 {a:Pl.Spec}:lnth (zAE a) 27=some (.sl 0 (a.fair.map zEF) .shut):=(rfl)
theorem dSpec27 {a:Pl.Spec}:lnth (List.drop 27 (zAE a)) 0=some (.sl 0 (a.fair.map zEF) .shut):=(rfl)
theorem nSpec28 {a:Pl.Spec}:lnth (zAE a) 28=some (.sl 0 (a.invs.map zBQ) .shut):=(rfl)
theorem dSpec28 {a:Pl.Spec}:lnth (List.drop 28 (zAE a)) 0=some (.sl 0 (a.invs.map zBQ) .shut):=(rfl)
theorem nSpec29 {a:Pl.Spec}:lnth (zAE a) 29=some (.sl 0 (a.props.map zD9) .shut):=(rfl)
theorem dSpec29 {a:Pl.Spec}:lnth (List.drop 29 (zAE a)) 0=some (.sl 0 (a.props.map zD9) .shut):=(rfl)
theorem nSpec30 {a:Pl.Spec}:lnth (zAE a) 30=some (.sl 0 (a.cons.map encX) .shut):=(rfl)
theorem dSpec30 {a:Pl.Spec}:lnth (List.drop 30 (zAE a)) 0=some (.sl 0 (a.cons.map encX) .shut):=(rfl)
theorem nSpec31 {a:Pl.Spec}:lnth (zAE a) 31=some (.sl 0 (a.acons.map encX) .shut):=(rfl)
theorem dSpec31 {a:Pl.Spec}:lnth (List.drop 31 (zAE a)) 0=some (.sl 0 (a.acons.map encX) .shut):=(rfl)
theorem nSpec32 {a:Pl.Spec}:lnth (zAE a) 32=some (.sl 0 (a.groups.map slS) .shut):=(rfl)
theorem dSpec32 {a:Pl.Spec}:lnth (List.drop 32 (zAE a)) 0=some (.sl 0 (a.groups.map slS) .shut):=(rfl)
theorem nSpec33 {a:Pl.Spec}:lnth (zAE a) 33=some (.sl 0 (a.view.map encX) .shut):=(rfl)
theorem dSpec33 {a:Pl.Spec}:lnth (List.drop 33 (zAE a)) 0=some (.sl 0 (a.view.map encX) .shut):=(rfl)
theorem nSpec34 {a:Pl.Spec}:lnth (zAE a) 34=some (.bool a.dead):=(rfl)
theorem dSpec34 {a:Pl.Spec}:lnth (List.drop 34 (zAE a)) 0=some (.bool a.dead):=(rfl)
theorem nPl0 {a:Pl.Spec}{d:Int}{sc:List Int}:lnth (zBB a d sc) 0=some (.sl 0 (a.models.map AV.str) .shut):=(rfl)
theorem nPl1 {a:Pl.Spec}{d:Int}{sc:List Int}:lnth (zBB a d sc) 1=some (.sl 0 (a.consts.map zBE) .shut):=(rfl)
theorem nPl2 {a:Pl.Spec}{d:Int}{sc:List Int}:lnth (zBB a d sc) 2=some (.sl 0 (a.vars.map zDL) .shut):=(rfl)
theorem nPl3 {a:Pl.Spec}{d:Int}{sc:List Int}:lnth (zBB a d sc) 3=some (.sl 0 (a.defs.map zCH) .shut):=(rfl)
theorem nPl4 {a:Pl.Spec}{d:Int}{sc:List Int}:lnth (zBB a d sc) 4=some (.sl 0 (a.assume.map encX) .shut):=(rfl)
theorem nPl27 {a:Pl.Spec}{d:Int}{sc:List Int}:lnth (zBB a d sc) 27=some (.sl 0 (a.fair.map zEF) .shut):=(rfl)
theorem nPl28 {a:Pl.Spec}{d:Int}{sc:List Int}:lnth (zBB a d sc) 28=some (.sl 0 (a.invs.map zBQ) .shut):=(rfl)
theorem nPl29 {a:Pl.Spec}{d:Int}{sc:List Int}:lnth (zBB a d sc) 29=some (.sl 0 (a.props.map zD9) .shut):=(rfl)
theorem nPl30 {a:Pl.Spec}{d:Int}{sc:List Int}:lnth (zBB a d sc) 30=some (.sl 0 (a.cons.map encX) .shut):=(rfl)
theorem nPl31 {a:Pl.Spec}{d:Int}{sc:List Int}:lnth (zBB a d sc) 31=some (.sl 0 (a.acons.map encX) .shut):=(rfl)
theorem nPl32 {a:Pl.Spec}{d:Int}{sc:List Int}:lnth (zBB a d sc) 32=some (.sl 0 (a.groups.map slS) .shut):=(rfl)
theorem nPl33 {a:Pl.Spec}{d:Int}{sc:List Int}:lnth (zBB a d sc) 33=some (.sl 0 (a.view.map encX) .shut):=(rfl)
theorem nPl34 {a:Pl.Spec}{d:Int}{sc:List Int}:lnth (zBB a d sc) 34=some (.bool a.dead):=(rfl)
theorem nPl35 {a:Pl.Spec}{d:Int}{sc:List Int}:lnth (zBB a d sc) 35=some (.int .i64 d):=(rfl)
theorem nPl36 {a:Pl.Spec}{d:Int}{sc:List Int}:lnth (zBB a d sc) 36=some (.sl 0 (sc.map iv) .shut):=(rfl)
theorem pk_Pl {a:Pl.Spec}{d:Int}{sc:List Int}:pick1 (E1.types 248) (zBB a d sc) 0=some (zFY a d sc):=by kernel_rfl
theorem pk_PlS {a:Pl.Spec}{d:Int}{sc:List Int}:pick1 (E1.types 40) (zBB a d sc) 0=some (zAX a):=by kernel_rfl
attribute [go_sem] pk_VI pk_XVI pk_V pk_X pk_XV pk_Def pk_Def3 pk_Var pk_Var1 zSV zWT pk_Named zWR pk_Fair pk_Fair1 zWS pk_Spec pk_Spec5 zWQ pk_Prp nX0 dX0 nX1 dX1 nX2 dX2 nX3 dX3 nX4 dX4 nX5 dX5 nX6 dX6 nX7 dX7 nX8 dX8 nX9 dX9 nX10 dX10 nV0 dV0 nV1 dV1 nV2 dV2 nV3 dV3 nV4 dV4 nV5 dV5 nV6 dV6 nDef0 dDef0 nDef1 dDef1 nDef2 dDef2 nVar0 dVar0 nConst0 dConst0 nNamed0 dNamed0 nFair0 dFair0 nPrp0 dPrp0 nSpec0 dSpec0 nSpec1 dSpec1 nSpec2 dSpec2 nSpec3 dSpec3 nSpec4 dSpec4 nSpec27 dSpec27 nSpec28 dSpec28 nSpec29 dSpec29 nSpec30 dSpec30 nSpec31 dSpec31 nSpec32 dSpec32 nSpec33 dSpec33 nSpec34 dSpec34 nPl0 nPl1 nPl2 nPl3 nPl4 nPl27 nPl28 nPl29 nPl30 nPl31 nPl32 nPl33 nPl34 nPl35 nPl36 pk_Pl pk_PlS pd_Def3 pd_Var1 zWX zWV pd_Fair1 zWW pd_Spec5 zWU
theorem pl3_3:E1.plan 3 3=[.q 0,.q 1,.q 2,.l 3,.q 4,.q 5,.q 6,.q 8,.l 7,.chk 8,.l 9,.q 10,.q 11,.q 12,.q 13,.q 14,.q 16,.q 17,.q 18,.l 15,.chk 17,.chk 16,.l 19,.q 20,.q 21,.q 22,.l 23]:=by kernel_rfl
theorem pl33_1:E1.plan 33 1=[.q 0,.q 1,.q 2,.q 3,.q 4,.q 5,.q 6,.q 7,.q 8,.q 9,.q 10,.q 11,.q 12,.q 13,.q 14,.q 15,.q 16,.q 17,.l 18]:=by kernel_rfl
theorem pl33_22:E1.plan 33 22=[.q 0,.q 1,.q 2,.q 3,.q 4,.q 5,.q 6,.q 7,.q 8,.q 9,.l 10]:=by kernel_rfl
theorem pl35_4:E1.plan 35 4=[.q 0,.q 1,.q 2,.q 3,.q 4,.q 5,.q 6,.q 7,.q 8,.q 9,.q 10,.l 11]:=by kernel_rfl
theorem pl36_1:E1.plan 36 1=[.q 0,.l 1,.chk 0,.q 2,.l 3,.l 4]:=by kernel_rfl
theorem pl39_1:E1.plan 39 1=[.q 0,.q 2,.q 3,.q 4,.l 1,.chk 2,.l 5,.l 6]:=by kernel_rfl
theorem pl59_1:E1.plan 59 1=[.q 0,.q 1,.q 2,.q 3,.q 4,.q 5,.q 6,.q 7,.q 8,.q 9,.q 10,.q 11,.q 12,.q 13,.q 14,.q 15,.q 16,.l 17]:=by kernel_rfl
theorem pl77_14:E1.plan 77 14=[.q 0,.q 1,.q 2,.q 3,.q 4,.l 5,.chk 2,.l 6,.q 7]:=by kernel_rfl
theorem pl81_6:E1.plan 81 6=[.q 0,.q 1,.q 2,.q 3,.q 4,.q 5,.q 6,.q 7,.q 8,.q 9,.q 10,.q 11,.q 12,.q 13,.q 14,.q 15,.q 16,.q 17,.q 18]:=by kernel_rfl
theorem pl81_7:E1.plan 81 7=[.q 0,.q 1,.q 2,.q 3,.q 4,.q 5,.q 6,.q 7,.q 8,.q 9,.q 10,.q 11,.q 12,.q 13,.q 14,.q 15,.q 16,.q 17,.l 18,.q 19]:=by kernel_rfl
theorem pl81_9:E1.plan 81 9=[.q 0,.q 1,.q 2,.q 3,.q 4,.q 7,.q 8,.l 5,.chk 1,.l 6,.chk 1,.l 9,.q 10]:=by kernel_rfl
theorem pl91_1:E1.plan 91 1=[.q 0,.q 1,.q 2,.q 3,.q 5,.q 6,.q 7,.q 8,.l 4,.chk 8,.chk 6,.l 9,.q 10,.l 11,.l 12]:=by kernel_rfl
theorem pl91_4:E1.plan 91 4=[.q 0,.q 1,.q 2,.q 3,.q 5,.q 6,.q 7,.q 8,.l 4,.chk 8,.chk 6,.l 9,.q 10,.l 11,.l 12]:=by kernel_rfl
theorem pl156_2:E1.plan 156 2=[.q 0,.q 1,.q 2,.q 3,.q 4,.q 5,.q 6,.l 7,.l 8]:=by kernel_rfl
theorem pl170_1:E1.plan 170 1=[.q 0,.q 1,.q 2,.q 3,.q 4,.q 5,.q 6,.q 7,.q 8,.q 9,.l 10,.chk 6,.chk 5,.chk 3,.l 11,.l 12]:=by kernel_rfl
theorem pl170_4:E1.plan 170 4=[.q 0,.q 1,.q 2,.q 3,.q 4,.l 5,.chk 4,.chk 3,.l 6]:=by kernel_rfl
theorem pl171_5:E1.plan 171 5=[.q 0,.q 1,.q 2,.q 3,.q 4,.q 5,.q 6,.q 7,.q 8,.q 9,.q 10,.q 11,.q 12,.q 13,.q 14,.q 15,.q 16,.q 17,.q 18,.q 19,.q 20,.q 21,.q 22,.q 23,.q 24,.q 25,.q 26,.l 27,.q 28,.q 29]:=by kernel_rfl
theorem pl171_7:E1.plan 171 7=[.q 0,.q 1,.q 2,.q 3,.q 4,.q 5,.q 6,.q 7,.q 8,.q 9,.l 10]:=by kernel_rfl
theorem pl171_10:E1.plan 171 10=[.q 0,.q 1,.q 2,.q 3,.q 4,.q 5,.q 6,.q 7,.q 8,.q 9,.q 10,.q 11,.q 12,.q 13,.q 14,.q 15,.q 16,.q 17,.q 18,.q 19,.q 20,.q 21,.q 22,.q 23,.q 24,.q 26,.q 27,.l 25,.chk 22,.chk 21,.chk 20,.l 28,.q 29,.l 30]:=by kernel_rfl
theorem pl174_17:E1.plan 174 17=[.q 0,.q 1,.q 2,.q 3,.q 4,.q 5,.l 6,.q 7,.q 8,.q 9,.l 10,.l 11]:=by kernel_rfl
theorem pl177_1:E1.plan 177 1=[.q 0,.q 1,.q 4,.l 2,.chk 4,.chk 0,.q 3,.l 5,.q 6,.q 7,.q 8,.l 9,.l 10]:=by kernel_rfl
theorem pl182_9:E1.plan 182 9=[.q 0,.q 1,.q 2,.q 3,.q 4,.q 5,.q 6,.q 7,.q 8,.q 9,.l 10,.l 11]:=by kernel_rfl
theorem pl184_7:E1.plan 184 7=[.q 0,.q 1,.q 2,.q 3,.q 4,.q 5,.q 6,.q 7,.q 8,.l 9,.l 10]:=by kernel_rfl
theorem pl250_4:E1.plan 250 4=[.q 0,.q 1,.q 2,.q 3,.l 4,.q 5,.q 6,.q 7,.q 8,.q 9,.q 10,.q 11,.q 12,.q 13,.l 14,.q 15]:=by kernel_rfl
theorem pl251_6:E1.plan 251 6=[.q 0,.q 1,.q 2,.q 3,.q 4,.q 5,.q 6,.q 7,.l 8,.q 9]:=by kernel_rfl
theorem pl252_11:E1.plan 252 11=[.q 0,.q 1,.q 2,.q 3,.q 4,.q 5,.l 6,.q 7,.q 8,.q 9,.q 10,.q 11,.q 12,.q 13,.l 14,.q 15]:=by kernel_rfl
theorem pl253_15:E1.plan 253 15=[.q 0,.q 1,.q 2,.q 3,.q 4,.q 5,.q 6,.q 7,.q 8]:=by kernel_rfl
theorem pl253_25:E1.plan 253 25=[.q 0,.q 1,.q 2,.q 3,.q 4,.q 5,.q 6,.q 7,.q 8,.q 9,.q 10,.q 11,.q 12,.q 13,.q 14,.l 15,.q 16,.q 17,.q 18,.l 19,.l 20]:=by kernel_rfl
theorem pl255_11:E1.plan 255 11=[.q 0,.q 1,.q 2,.q 3,.q 4,.q 5,.q 6,.q 7,.q 8,.q 9,.q 10,.q 11,.q 12,.q 13,.l 14,.l 15]:=by kernel_rfl
theorem pl256_9:E1.plan 256 9=[.q 0,.q 1,.q 2,.l 3,.chk 0,.l 4,.l 5,.l 6]:=by kernel_rfl
theorem pl256_10:E1.plan 256 10=[.q 0,.q 1,.q 2,.q 3,.q 4,.q 5,.q 6,.q 7,.q 8,.q 10,.l 9,.chk 5,.chk 4,.chk 2,.chk 0,.l 11,.q 12,.q 13,.q 14,.l 15,.l 16]:=by kernel_rfl
theorem pl258_4:E1.plan 258 4=[.q 0,.q 1,.q 2,.q 3,.q 4,.q 5,.q 6,.q 7,.q 8,.l 9,.q 10]:=by kernel_rfl
theorem pl274_6:E1.plan 274 6=[.q 0,.q 1,.q 2,.q 3,.q 4,.q 5,.q 6,.q 7,.l 8,.l 9]:=by kernel_rfl
theorem pl327_6:E1.plan 327 6=[.q 0,.q 1,.q 2,.q 3,.q 4,.q 5,.q 6,.q 7,.q 8]:=by kernel_rfl
theorem pl327_7:E1.plan 327 7=[.q 0,.q 1,.q 2,.q 3,.q 4,.q 5,.q 6,.q 7,.l 8,.l 9]:=by kernel_rfl
theorem pl352_7:E1.plan 352 7=[.q 0,.q 1,.l 2,.chk 1,.l 3]:=by kernel_rfl
theorem pl357_4:E1.plan 357 4=[.q 0,.q 1,.q 2,.q 3,.q 4,.q 5,.q 6,.q 7,.q 8,.l 9,.q 10]:=by kernel_rfl
theorem pl359_4:E1.plan 359 4=[.q 0,.q 1,.q 2,.q 3,.l 4,.q 5,.q 6,.q 7,.q 8,.q 9,.q 10,.q 11,.q 12,.q 13,.q 14,.q 15,.q 16,.q 17,.q 18,.q 19,.q 20,.q 21]:=by kernel_rfl
attribute [go_sem] pl3_3 pl33_1 pl33_22 pl35_4 pl36_1 pl39_1 pl59_1 pl77_14 pl81_6 pl81_7 pl81_9 pl91_1 pl91_4 pl156_2 pl170_1 pl170_4 pl171_5 pl171_7 pl171_10 pl174_17 pl177_1 pl182_9 pl184_7 pl250_4 pl251_6 pl252_11 pl253_15 pl253_25 pl255_11 pl256_9 pl256_10 pl258_4 pl274_6 pl327_6 pl327_7 pl352_7 pl357_4 pl359_4
theorem md3:E1.mode 3=⟨true,false,false,false⟩:=rfl
theorem md5:E1.mode 5=⟨true,false,false,false⟩:=rfl
theorem md6:E1.mode 6=⟨true,false,false,false⟩:=rfl
theorem md7:E1.mode 7=⟨true,false,false,false⟩:=rfl
theorem md8:E1.mode 8=⟨true,false,false,false⟩:=rfl
theorem md9:E1.mode 9=⟨true,false,false,false⟩:=rfl
theorem md33:E1.mode 33=⟨false,false,false,false⟩:=rfl
theorem md34:E1.mode 34=⟨false,false,false,false⟩:=rfl
theorem md35:E1.mode 35=⟨false,false,false,false⟩:=rfl
theorem md36:E1.mode 36=⟨false,false,false,false⟩:=rfl
theorem md37:E1.mode 37=⟨false,false,false,false⟩:=rfl
theorem md38:E1.mode 38=⟨true,false,false,false⟩:=rfl
theorem md39:E1.mode 39=⟨true,false,false,false⟩:=rfl
theorem md40:E1.mode 40=⟨true,false,false,false⟩:=rfl
theorem md59:E1.mode 59=⟨false,false,false,false⟩:=rfl
theorem md60:E1.mode 60=⟨false,false,false,false⟩:=rfl
theorem md61:E1.mode 61=⟨false,false,false,false⟩:=rfl
theorem md62:E1.mode 62=⟨false,false,false,false⟩:=rfl
theorem md63:E1.mode 63=⟨true,false,false,false⟩:=rfl
theorem md64:E1.mode 64=⟨true,false,false,false⟩:=rfl
theorem md65:E1.mode 65=⟨false,false,false,false⟩:=rfl
theorem md66:E1.mode 66=⟨false,false,false,false⟩:=rfl
theorem md67:E1.mode 67=⟨false,false,false,false⟩:=rfl
theorem md68:E1.mode 68=⟨false,false,false,false⟩:=rfl
theorem md69:E1.mode 69=⟨false,false,false,false⟩:=rfl
theorem md70:E1.mode 70=⟨false,false,false,false⟩:=rfl
theorem md71:E1.mode 71=⟨false,false,false,false⟩:=rfl
theorem md72:E1.mode 72=⟨false,false,false,false⟩:=rfl
theorem md73:E1.mode 73=⟨false,false,false,false⟩:=rfl
theorem md74:E1.mode 74=⟨false,false,false,false⟩:=rfl
theorem md75:E1.mode 75=⟨false,false,false,false⟩:=rfl
theorem md76:E1.mode 76=⟨false,false,false,false⟩:=rfl
theorem md77:E1.mode 77=⟨false,false,false,false⟩:=rfl
theorem md78:E1.mode 78=⟨false,false,true,false⟩:=rfl
theorem md79:E1.mode 79=⟨false,false,false,false⟩:=rfl
theorem md80:E1.mode 80=⟨false,false,false,false⟩:=rfl
theorem md81:E1.mode 81=⟨false,false,false,false⟩:=rfl
theorem md82:E1.mode 82=⟨true,false,false,false⟩:=rfl
theorem md83:E1.mode 83=⟨true,false,false,false⟩:=rfl
theorem md84:E1.mode 84=⟨true,false,false,false⟩:=rfl
theorem md85:E1.mode 85=⟨true,false,false,false⟩:=rfl
theorem md86:E1.mode 86=⟨true,false,false,false⟩:=rfl
theorem md91:E1.mode 91=⟨true,false,false,false⟩:=rfl
theorem md149:E1.mode 149=⟨false,false,false,false⟩:=rfl
theorem md150:E1.mode 150=⟨false,false,false,false⟩:=rfl
theorem md151:E1.mode 151=⟨false,false,false,false⟩:=rfl
theorem md152:E1.mode 152=⟨true,false,false,false⟩:=rfl
theorem md153:E1.mode 153=⟨true,false,false,false⟩:=rfl
theorem md154:E1.mode 154=⟨false,false,false,false⟩:=rfl
theorem md155:E1.mode 155=⟨true,false,false,false⟩:=rfl
theorem md156:E1.mode 156=⟨false,false,false,false⟩:=rfl
theorem md157:E1.mode 157=⟨false,false,false,false⟩:=rfl
theorem md158:E1.mode 158=⟨false,false,false,false⟩:=rfl
theorem md159:E1.mode 159=⟨false,false,false,false⟩:=rfl
theorem md160:E1.mode 160=⟨false,false,false,false⟩:=rfl
theorem md161:E1.mode 161=⟨false,false,false,false⟩:=rfl
theorem md162:E1.mode 162=⟨false,false,false,false⟩:=rfl
theorem md163:E1.mode 163=⟨false,false,false,false⟩:=rfl
theorem md164:E1.mode 164=⟨false,false,false,false⟩:=rfl
theorem md165:E1.mode 165=⟨false,false,false,false⟩:=rfl
theorem md166:E1.mode 166=⟨false,false,true,false⟩:=rfl
theorem md167:E1.mode 167=⟨false,true,true,false⟩:=rfl
theorem md168:E1.mode 168=⟨false,false,false,false⟩:=rfl
theorem md169:E1.mode 169=⟨false,false,false,false⟩:=rfl
theorem md170:E1.mode 170=⟨false,false,false,false⟩:=rfl
theorem md171:E1.mode 171=⟨false,false,false,false⟩:=rfl
theorem md172:E1.mode 172=⟨true,false,false,false⟩:=rfl
theorem md173:E1.mode 173=⟨true,false,false,false⟩:=rfl
theorem md174:E1.mode 174=⟨true,false,false,false⟩:=rfl
theorem md175:E1.mode 175=⟨true,false,false,false⟩:=rfl
theorem md176:E1.mode 176=⟨true,false,false,false⟩:=rfl
theorem md177:E1.mode 177=⟨true,false,false,false⟩:=rfl
theorem md180:E1.mode 180=⟨true,false,false,false⟩:=rfl
theorem md181:E1.mode 181=⟨true,false,false,false⟩:=rfl
theorem md182:E1.mode 182=⟨true,false,false,false⟩:=rfl
theorem md183:E1.mode 183=⟨true,false,false,false⟩:=rfl
theorem md184:E1.mode 184=⟨false,false,false,false⟩:=rfl
theorem md192:E1.mode 192=⟨true,false,false,false⟩:=rfl
theorem md237:E1.mode 237=⟨true,false,false,false⟩:=rfl
theorem md238:E1.mode 238=⟨true,false,false,false⟩:=rfl
theorem md239:E1.mode 239=⟨true,false,false,false⟩:=rfl
theorem md240:E1.mode 240=⟨false,false,false,false⟩:=rfl
theorem md241:E1.mode 241=⟨false,false,false,false⟩:=rfl
theorem md242:E1.mode 242=⟨false,false,false,false⟩:=rfl
theorem md243:E1.mode 243=⟨false,false,false,false⟩:=rfl
theorem md244:E1.mode 244=⟨false,false,false,false⟩:=rfl
theorem md245:E1.mode 245=⟨true,false,false,false⟩:=rfl
theorem md246:E1.mode 246=⟨true,false,false,false⟩:=rfl
theorem md247:E1.mode 247=⟨false,false,false,false⟩:=rfl
theorem md248:E1.mode 248=⟨false,false,false,false⟩:=rfl
theorem md249:E1.mode 249=⟨false,false,true,false⟩:=rfl
theorem md250:E1.mode 250=⟨true,false,false,false⟩:=rfl
theorem md251:E1.mode 251=⟨true,false,false,false⟩:=rfl
theorem md252:E1.mode 252=⟨true,false,false,false⟩:=rfl
theorem md253:E1.mode 253=⟨true,false,false,false⟩:=rfl
theorem md254:E1.mode 254=⟨true,false,false,false⟩:=rfl
theorem md255:E1.mode 255=⟨true,false,false,false⟩:=rfl
theorem md256:E1.mode 256=⟨true,false,false,false⟩:=rfl
theorem md257:E1.mode 257=⟨true,false,false,false⟩:=rfl
theorem md258:E1.mode 258=⟨true,false,false,false⟩:=rfl
theorem md259:E1.mode 259=⟨true,false,false,false⟩:=rfl
theorem md260:E1.mode 260=⟨true,false,false,false⟩:=rfl
theorem md262:E1.mode 262=⟨true,false,false,false⟩:=rfl
theorem md263:E1.mode 263=⟨true,false,false,false⟩:=rfl
theorem md271:E1.mode 271=⟨true,false,false,false⟩:=rfl
theorem md272:E1.mode 272=⟨true,false,false,false⟩:=rfl
theorem md273:E1.mode 273=⟨false,false,false,false⟩:=rfl
theorem md274:E1.mode 274=⟨true,false,false,false⟩:=rfl
theorem md304:E1.mode 304=⟨false,false,false,false⟩:=rfl
theorem md309:E1.mode 309=⟨true,false,false,false⟩:=rfl
theorem md310:E1.mode 310=⟨false,false,false,false⟩:=rfl
theorem md311:E1.mode 311=⟨true,false,false,false⟩:=rfl
theorem md312:E1.mode 312=⟨true,false,false,false⟩:=rfl
theorem md313:E1.mode 313=⟨true,false,false,false⟩:=rfl
theorem md314:E1.mode 314=⟨true,false,false,false⟩:=rfl
theorem md315:E1.mode 315=⟨true,false,false,false⟩:=rfl
theorem md316:E1.mode 316=⟨true,false,false,false⟩:=rfl
theorem md317:E1.mode 317=⟨true,false,false,false⟩:=rfl
theorem md318:E1.mode 318=⟨true,false,false,false⟩:=rfl
theorem md319:E1.mode 319=⟨true,false,false,false⟩:=rfl
theorem md320:E1.mode 320=⟨true,false,false,false⟩:=rfl
theorem md321:E1.mode 321=⟨true,false,false,false⟩:=rfl
theorem md322:E1.mode 322=⟨true,false,false,false⟩:=rfl
theorem md323:E1.mode 323=⟨true,false,false,false⟩:=rfl
theorem md327:E1.mode 327=⟨true,false,false,false⟩:=rfl
theorem md328:E1.mode 328=⟨true,false,false,false⟩:=rfl
theorem md348:E1.mode 348=⟨false,false,false,false⟩:=rfl
theorem md352:E1.mode 352=⟨true,false,false,false⟩:=rfl
theorem md353:E1.mode 353=⟨false,false,false,false⟩:=rfl
theorem md354:E1.mode 354=⟨false,false,false,false⟩:=rfl
theorem md355:E1.mode 355=⟨true,false,false,false⟩:=rfl
theorem md356:E1.mode 356=⟨true,false,false,false⟩:=rfl
theorem md357:E1.mode 357=⟨true,false,false,false⟩:=rfl
theorem md358:E1.mode 358=⟨true,false,false,false⟩:=rfl
theorem md359:E1.mode 359=⟨true,false,false,false⟩:=rfl
theorem md360:E1.mode 360=⟨true,false,false,false⟩:=rfl
theorem md361:E1.mode 361=⟨true,false,false,false⟩:=rfl
theorem md363:E1.mode 363=⟨true,false,false,false⟩:=rfl
theorem md381:E1.mode 381=⟨true,false,false,false⟩:=rfl
theorem md382:E1.mode 382=⟨true,false,false,false⟩:=rfl
theorem md383:E1.mode 383=⟨true,false,false,false⟩:=rfl
attribute [go_sem] md3 md5 md6 md7 md8 md9 md33 md34 md35 md36 md37 md38 md39 md40 md59 md60 md61 md62 md63 md64 md65 md66 md67 md68 md69 md70 md71 md72 md73 md74 md75 md76 md77 md78 md79 md80 md81 md82 md83 md84 md85 md86 md91 md149 md150 md151 md152 md153 md154 md155 md156 md157 md158 md159 md160 md161 md162 md163 md164 md165 md166 md167 md168 md169 md170 md171 md172 md173 md174 md175 md176 md177 md180 md181 md182 md183 md184 md192 md237 md238 md239 md240 md241 md242 md243 md244 md245 md246 md247 md248 md249 md250 md251 md252 md253 md254 md255 md256 md257 md258 md259 md260 md262 md263 md271 md272 md273 md274 md304 md309 md310 md311 md312 md313 md314 md315 md316 md317 md318 md319 md320 md321 md322 md323 md327 md328 md348 md352 md353 md354 md355 md356 md357 md358 md359 md360 md361 md363 md381 md382 md383
end Go.Ab.X
end
