/- A part. -/
import Derived.Test.YtoolminfelljcaaGreatDoorX1
import Derived.KernelRfl
set_option linter.all false
noncomputable section
namespace Go.Ab.X
open Go Go.Ab Go.Proofs
set_option maxRecDepth 100000
def intr1 (f:Nat)(args:List AV):Option AV:=match intr f args with|some v=>some v|none=>bif Nat.beq f 5&&args.isEmpty then some (.bool true) else none
def E1:Env:=E.wi intr1
theorem tys0:(E1.types 0).size=1:=by kernel_rfl
theorem tyd0:(E1.types 0).d=.other:=by kernel_rfl
theorem tyb0:(E1.types 0).bytes=0:=by kernel_rfl
theorem tyz0:cellsOf (zAP (E1.types 0))=[undef]:=by kernel_rfl
theorem tyo0:(E1.types 0).ok=false:=by kernel_rfl
theorem tyk0 (cs:List AV)(o:Nat):pick1 (E1.types 0) cs o=lnth cs o:=zA5 (by kernel_rfl) (by kernel_rfl) cs
theorem tys3:(E1.types 3).size=1:=by kernel_rfl
theorem tyd3:(E1.types 3).d=.int .i64:=by kernel_rfl
theorem tyb3:(E1.types 3).bytes=8:=by kernel_rfl
theorem tyz3:cellsOf (zAP (E1.types 3))=[.int .i64 0]:=by kernel_rfl
theorem tyo3:(E1.types 3).ok=true:=by kernel_rfl
theorem tyk3 (cs:List AV)(o:Nat):pick1 (E1.types 3) cs o=lnth cs o:=zA5 (by kernel_rfl) (by kernel_rfl) cs
theorem tys4:(E1.types 4).size=1:=by kernel_rfl
theorem tyd4:(E1.types 4).d=.bool:=by kernel_rfl
theorem tyb4:(E1.types 4).bytes=1:=by kernel_rfl
theorem tyz4:cellsOf (zAP (E1.types 4))=[.bool false]:=by kernel_rfl
theorem tyo4:(E1.types 4).ok=true:=by kernel_rfl
theorem tyk4 (cs:List AV)(o:Nat):pick1 (E1.types 4) cs o=lnth cs o:=zA5 (by kernel_rfl) (by kernel_rfl) cs
theorem tys9:(E1.types 9).size=1:=by kernel_rfl
theorem tyd9:(E1.types 9).d=.str:=by kernel_rfl
theorem tyb9:(E1.types 9).bytes=16:=by kernel_rfl
theorem tyz9:cellsOf (zAP (E1.types 9))=[.str []]:=by kernel_rfl
theorem tyo9:(E1.types 9).ok=true:=by kernel_rfl
theorem tyk9 (cs:List AV)(o:Nat):pick1 (E1.types 9) cs o=lnth cs o:=zA5 (by kernel_rfl) (by kernel_rfl) cs
theorem tys20:(E1.types 20).size=1:=by kernel_rfl
theorem tyd20:(E1.types 20).d=.iface:=by kernel_rfl
theorem tyb20:(E1.types 20).bytes=16:=by kernel_rfl
theorem tyz20:cellsOf (zAP (E1.types 20))=[.niliface]:=by kernel_rfl
theorem tyo20:(E1.types 20).ok=true:=by kernel_rfl
theorem tyk20 (cs:List AV)(o:Nat):pick1 (E1.types 20) cs o=lnth cs o:=zA5 (by kernel_rfl) (by kernel_rfl) cs
theorem tys22:(E1.types 22).size=1:=by kernel_rfl
theorem tyd22:(E1.types 22).d=.slice 35:=by kernel_rfl
theorem tyb22:(E1.types 22).bytes=24:=by kernel_rfl
theorem tyz22:cellsOf (zAP (E1.types 22))=[.sl 0 [] .nil]:=by kernel_rfl
theorem tyo22:(E1.types 22).ok=true:=by kernel_rfl
theorem tyk22 (cs:List AV)(o:Nat):pick1 (E1.types 22) cs o=lnth cs o:=zA5 (by kernel_rfl) (by kernel_rfl) cs
theorem tys24:(E1.types 24).size=2:=by kernel_rfl
theorem tyd24:(E1.types 24).d=.struct [(0,22),(1,3)]:=by kernel_rfl
theorem tyb24:(E1.types 24).bytes=32:=by kernel_rfl
theorem tyz24:cellsOf (zAP (E1.types 24))=[.sl 0 [] .nil,.int .i64 0]:=by kernel_rfl
theorem tyo24:(E1.types 24).ok=true:=by kernel_rfl
theorem tys27:(E1.types 27).size=1:=by kernel_rfl
theorem tyd27:(E1.types 27).d=.slice 9:=by kernel_rfl
theorem tyb27:(E1.types 27).bytes=24:=by kernel_rfl
theorem tyz27:cellsOf (zAP (E1.types 27))=[.sl 0 [] .nil]:=by kernel_rfl
theorem tyo27:(E1.types 27).ok=true:=by kernel_rfl
theorem tyk27 (cs:List AV)(o:Nat):pick1 (E1.types 27) cs o=lnth cs o:=zA5 (by kernel_rfl) (by kernel_rfl) cs
theorem tys28:(E1.types 28).size=1:=by kernel_rfl
theorem tyd28:(E1.types 28).d=.slice 122:=by kernel_rfl
theorem tyb28:(E1.types 28).bytes=24:=by kernel_rfl
theorem tyz28:cellsOf (zAP (E1.types 28))=[.sl 0 [] .nil]:=by kernel_rfl
theorem tyo28:(E1.types 28).ok=true:=by kernel_rfl
theorem tyk28 (cs:List AV)(o:Nat):pick1 (E1.types 28) cs o=lnth cs o:=zA5 (by kernel_rfl) (by kernel_rfl) cs
theorem tys29:(E1.types 29).size=1:=by kernel_rfl
theorem tyd29:(E1.types 29).d=.slice 98:=by kernel_rfl
theorem tyb29:(E1.types 29).bytes=24:=by kernel_rfl
theorem tyz29:cellsOf (zAP (E1.types 29))=[.sl 0 [] .nil]:=by kernel_rfl
theorem tyo29:(E1.types 29).ok=true:=by kernel_rfl
theorem tyk29 (cs:List AV)(o:Nat):pick1 (E1.types 29) cs o=lnth cs o:=zA5 (by kernel_rfl) (by kernel_rfl) cs
theorem tys30:(E1.types 30).size=1:=by kernel_rfl
theorem tyd30:(E1.types 30).d=.slice 124:=by kernel_rfl
theorem tyb30:(E1.types 30).bytes=24:=by kernel_rfl
theorem tyz30:cellsOf (zAP (E1.types 30))=[.sl 0 [] .nil]:=by kernel_rfl
theorem tyo30:(E1.types 30).ok=true:=by kernel_rfl
theorem tyk30 (cs:List AV)(o:Nat):pick1 (E1.types 30) cs o=lnth cs o:=zA5 (by kernel_rfl) (by kernel_rfl) cs
theorem tys31:(E1.types 31).size=1:=by kernel_rfl
theorem tyd31:(E1.types 31).d=.slice 39:=by kernel_rfl
theorem tyb31:(E1.types 31).bytes=24:=by kernel_rfl
theorem tyz31:cellsOf (zAP (E1.types 31))=[.sl 0 [] .nil]:=by kernel_rfl
theorem tyo31:(E1.types 31).ok=true:=by kernel_rfl
theorem tyk31 (cs:List AV)(o:Nat):pick1 (E1.types 31) cs o=lnth cs o:=zA5 (by kernel_rfl) (by kernel_rfl) cs
theorem tys32:(E1.types 32).size=1:=by kernel_rfl
theorem tyd32:(E1.types 32).d=.slice 3:=by kernel_rfl
theorem tyb32:(E1.types 32).bytes=24:=by kernel_rfl
theorem tyz32:cellsOf (zAP (E1.types 32))=[.sl 0 [] .nil]:=by kernel_rfl
theorem tyo32:(E1.types 32).ok=true:=by kernel_rfl
theorem tyk32 (cs:List AV)(o:Nat):pick1 (E1.types 32) cs o=lnth cs o:=zA5 (by kernel_rfl) (by kernel_rfl) cs
theorem tys34:(E1.types 34).size=2:=by kernel_rfl
theorem tyd34:(E1.types 34).d=.struct [(0,4),(1,32)]:=by kernel_rfl
theorem tyb34:(E1.types 34).bytes=32:=by kernel_rfl
theorem tyz34:cellsOf (zAP (E1.types 34))=[.bool false,.sl 0 [] .nil]:=by kernel_rfl
theorem tyo34:(E1.types 34).ok=true:=by kernel_rfl
theorem tys35:(E1.types 35).size=1:=by kernel_rfl
theorem tyd35:(E1.types 35).d=.slice 37:=by kernel_rfl
theorem tyb35:(E1.types 35).bytes=24:=by kernel_rfl
theorem tyz35:cellsOf (zAP (E1.types 35))=[.sl 0 [] .nil]:=by kernel_rfl
theorem tyo35:(E1.types 35).ok=true:=by kernel_rfl
theorem tyk35 (cs:List AV)(o:Nat):pick1 (E1.types 35) cs o=lnth cs o:=zA5 (by kernel_rfl) (by kernel_rfl) cs
theorem tys37:(E1.types 37).size=7:=by kernel_rfl
theorem tyd37:(E1.types 37).d=.struct [(0,3),(1,3),(2,34),(4,9),(5,35),(6,35)]:=by kernel_rfl
theorem tyb37:(E1.types 37).bytes=112:=by kernel_rfl
theorem tyz37:cellsOf (zAP (E1.types 37))=[.int .i64 0,.int .i64 0,.bool false,.sl 0 [] .nil,.str [],.sl 0 [] .nil,.sl 0 [] .nil]:=by kernel_rfl
theorem tyo37:(E1.types 37).ok=true:=by kernel_rfl
theorem tys39:(E1.types 39).size=11:=by kernel_rfl
theorem tyd39:(E1.types 39).d=.struct [(0,3),(1,3),(2,27),(3,37),(10,31)]:=by kernel_rfl
theorem tyb39:(E1.types 39).bytes=176:=by kernel_rfl
theorem tyz39:cellsOf (zAP (E1.types 39))=[.int .i64 0,.int .i64 0,.sl 0 [] .nil,.int .i64 0,.int .i64 0,.bool false,.sl 0 [] .nil,.str [],.sl 0 [] .nil,.sl 0 [] .nil,.sl 0 [] .nil]:=by kernel_rfl
theorem tyo39:(E1.types 39).ok=true:=by kernel_rfl
theorem tys40:(E1.types 40).size=1:=by kernel_rfl
theorem tyd40:(E1.types 40).d=.slice 100:=by kernel_rfl
theorem tyb40:(E1.types 40).bytes=24:=by kernel_rfl
theorem tyz40:cellsOf (zAP (E1.types 40))=[.sl 0 [] .nil]:=by kernel_rfl
theorem tyo40:(E1.types 40).ok=true:=by kernel_rfl
theorem tyk40 (cs:List AV)(o:Nat):pick1 (E1.types 40) cs o=lnth cs o:=zA5 (by kernel_rfl) (by kernel_rfl) cs
theorem tys41:(E1.types 41).size=1:=by kernel_rfl
theorem tyd41:(E1.types 41).d=.slice 126:=by kernel_rfl
theorem tyb41:(E1.types 41).bytes=24:=by kernel_rfl
theorem tyz41:cellsOf (zAP (E1.types 41))=[.sl 0 [] .nil]:=by kernel_rfl
theorem tyo41:(E1.types 41).ok=true:=by kernel_rfl
theorem tyk41 (cs:List AV)(o:Nat):pick1 (E1.types 41) cs o=lnth cs o:=zA5 (by kernel_rfl) (by kernel_rfl) cs
theorem tys42:(E1.types 42).size=1:=by kernel_rfl
theorem tyd42:(E1.types 42).d=.slice 132:=by kernel_rfl
theorem tyb42:(E1.types 42).bytes=24:=by kernel_rfl
theorem tyz42:cellsOf (zAP (E1.types 42))=[.sl 0 [] .nil]:=by kernel_rfl
theorem tyo42:(E1.types 42).ok=true:=by kernel_rfl
theorem tyk42 (cs:List AV)(o:Nat):pick1 (E1.types 42) cs o=lnth cs o:=zA5 (by kernel_rfl) (by kernel_rfl) cs
theorem tys43:(E1.types 43).size=1:=by kernel_rfl
theorem tyd43:(E1.types 43).d=.slice 27:=by kernel_rfl
theorem tyb43:(E1.types 43).bytes=24:=by kernel_rfl
theorem tyz43:cellsOf (zAP (E1.types 43))=[.sl 0 [] .nil]:=by kernel_rfl
theorem tyo43:(E1.types 43).ok=true:=by kernel_rfl
theorem tyk43 (cs:List AV)(o:Nat):pick1 (E1.types 43) cs o=lnth cs o:=zA5 (by kernel_rfl) (by kernel_rfl) cs
theorem tys45:(E1.types 45).size=35:=by kernel_rfl
theorem tyd45:(E1.types 45).d=.struct [(0,27),(1,28),(2,29),(3,30),(4,31),(5,39),(16,39),(27,40),(28,41),(29,42),(30,31),(31,31),(32,43),(33,31),(34,4)]:=by kernel_rfl
theorem tyb45:(E1.types 45).bytes=648:=by kernel_rfl
theorem tyz45:cellsOf (zAP (E1.types 45))=[.sl 0 [] .nil,.sl 0 [] .nil,.sl 0 [] .nil,.sl 0 [] .nil,.sl 0 [] .nil,.int .i64 0,.int .i64 0,.sl 0 [] .nil,.int .i64 0,.int .i64 0,.bool false,.sl 0 [] .nil,.str [],.sl 0 [] .nil,.sl 0 [] .nil,.sl 0 [] .nil,.int .i64 0,.int .i64 0,.sl 0 [] .nil,.int .i64 0,.int .i64 0,.bool false,.sl 0 [] .nil,.str [],.sl 0 [] .nil,.sl 0 [] .nil,.sl 0 [] .nil,.sl 0 [] .nil,.sl 0 [] .nil,.sl 0 [] .nil,.sl 0 [] .nil,.sl 0 [] .nil,.sl 0 [] .nil,.sl 0 [] .nil,.bool false]:=by kernel_rfl
theorem tyo45:(E1.types 45).ok=true:=by kernel_rfl
theorem tys46:(E1.types 46).size=1:=by kernel_rfl
theorem tyd46:(E1.types 46).d=.slice 24:=by kernel_rfl
theorem tyb46:(E1.types 46).bytes=24:=by kernel_rfl
theorem tyz46:cellsOf (zAP (E1.types 46))=[.sl 0 [] .nil]:=by kernel_rfl
theorem tyo46:(E1.types 46).ok=true:=by kernel_rfl
theorem tyk46 (cs:List AV)(o:Nat):pick1 (E1.types 46) cs o=lnth cs o:=zA5 (by kernel_rfl) (by kernel_rfl) cs
theorem tys47:(E1.types 47).size=1:=by kernel_rfl
theorem tyd47:(E1.types 47).d=.int .i64:=by kernel_rfl
theorem tyb47:(E1.types 47).bytes=8:=by kernel_rfl
theorem tyz47:cellsOf (zAP (E1.types 47))=[.int .i64 0]:=by kernel_rfl
theorem tyo47:(E1.types 47).ok=true:=by kernel_rfl
theorem tyk47 (cs:List AV)(o:Nat):pick1 (E1.types 47) cs o=lnth cs o:=zA5 (by kernel_rfl) (by kernel_rfl) cs
theorem tys48:(E1.types 48).size=1:=by kernel_rfl
theorem tyd48:(E1.types 48).d=.other:=by kernel_rfl
theorem tyb48:(E1.types 48).bytes=0:=by kernel_rfl
theorem tyz48:cellsOf (zAP (E1.types 48))=[undef]:=by kernel_rfl
theorem tyo48:(E1.types 48).ok=false:=by kernel_rfl
theorem tyk48 (cs:List AV)(o:Nat):pick1 (E1.types 48) cs o=lnth cs o:=zA5 (by kernel_rfl) (by kernel_rfl) cs
theorem tys55:(E1.types 55).size=1:=by kernel_rfl
theorem tyd55:(E1.types 55).d=.slice 96:=by kernel_rfl
theorem tyb55:(E1.types 55).bytes=24:=by kernel_rfl
theorem tyz55:cellsOf (zAP (E1.types 55))=[.sl 0 [] .nil]:=by kernel_rfl
theorem tyo55:(E1.types 55).ok=true:=by kernel_rfl
theorem tyk55 (cs:List AV)(o:Nat):pick1 (E1.types 55) cs o=lnth cs o:=zA5 (by kernel_rfl) (by kernel_rfl) cs
theorem tys61:(E1.types 61).size=1:=by kernel_rfl
theorem tyd61:(E1.types 61).d=.slice 63:=by kernel_rfl
theorem tyb61:(E1.types 61).bytes=24:=by kernel_rfl
theorem tyz61:cellsOf (zAP (E1.types 61))=[.sl 0 [] .nil]:=by kernel_rfl
theorem tyo61:(E1.types 61).ok=true:=by kernel_rfl
theorem tyk61 (cs:List AV)(o:Nat):pick1 (E1.types 61) cs o=lnth cs o:=zA5 (by kernel_rfl) (by kernel_rfl) cs
theorem tys63:(E1.types 63).size=24:=by kernel_rfl
theorem tyd63:(E1.types 63).d=.struct [(0,3),(1,39),(12,39),(23,61)]:=by kernel_rfl
theorem tyb63:(E1.types 63).bytes=384:=by kernel_rfl
theorem tyz63:cellsOf (zAP (E1.types 63))=[.int .i64 0,.int .i64 0,.int .i64 0,.sl 0 [] .nil,.int .i64 0,.int .i64 0,.bool false,.sl 0 [] .nil,.str [],.sl 0 [] .nil,.sl 0 [] .nil,.sl 0 [] .nil,.int .i64 0,.int .i64 0,.sl 0 [] .nil,.int .i64 0,.int .i64 0,.bool false,.sl 0 [] .nil,.str [],.sl 0 [] .nil,.sl 0 [] .nil,.sl 0 [] .nil,.sl 0 [] .nil]:=by kernel_rfl
theorem tyo63:(E1.types 63).ok=true:=by kernel_rfl
theorem tys77:(E1.types 77).size=1:=by kernel_rfl
theorem tyd77:(E1.types 77).d=.ptr 79:=by kernel_rfl
theorem tyb77:(E1.types 77).bytes=8:=by kernel_rfl
theorem tyz77:cellsOf (zAP (E1.types 77))=[.nilptr]:=by kernel_rfl
theorem tyo77:(E1.types 77).ok=true:=by kernel_rfl
theorem tyk77 (cs:List AV)(o:Nat):pick1 (E1.types 77) cs o=lnth cs o:=zA5 (by kernel_rfl) (by kernel_rfl) cs
theorem tys79:(E1.types 79).size=1:=by kernel_rfl
theorem tyd79:(E1.types 79).d=.struct [(0,3)]:=by kernel_rfl
theorem tyb79:(E1.types 79).bytes=8:=by kernel_rfl
theorem tyz79:cellsOf (zAP (E1.types 79))=[.int .i64 0]:=by kernel_rfl
theorem tyo79:(E1.types 79).ok=true:=by kernel_rfl
theorem tys84:(E1.types 84).size=1:=by kernel_rfl
theorem tyd84:(E1.types 84).d=.func:=by kernel_rfl
theorem tyb84:(E1.types 84).bytes=8:=by kernel_rfl
theorem tyz84:cellsOf (zAP (E1.types 84))=[.nilfunc]:=by kernel_rfl
theorem tyo84:(E1.types 84).ok=true:=by kernel_rfl
theorem tyk84 (cs:List AV)(o:Nat):pick1 (E1.types 84) cs o=lnth cs o:=zA5 (by kernel_rfl) (by kernel_rfl) cs
theorem tys92:(E1.types 92).size=1:=by kernel_rfl
theorem tyd92:(E1.types 92).d=.func:=by kernel_rfl
theorem tyb92:(E1.types 92).bytes=8:=by kernel_rfl
theorem tyz92:cellsOf (zAP (E1.types 92))=[.nilfunc]:=by kernel_rfl
theorem tyo92:(E1.types 92).ok=true:=by kernel_rfl
theorem tyk92 (cs:List AV)(o:Nat):pick1 (E1.types 92) cs o=lnth cs o:=zA5 (by kernel_rfl) (by kernel_rfl) cs
theorem tys96:(E1.types 96).size=3:=by kernel_rfl
theorem tyd96:(E1.types 96).d=.struct [(0,3),(1,3),(2,3)]:=by kernel_rfl
theorem tyb96:(E1.types 96).bytes=24:=by kernel_rfl
theorem tyz96:cellsOf (zAP (E1.types 96))=[.int .i64 0,.int .i64 0,.int .i64 0]:=by kernel_rfl
theorem tyo96:(E1.types 96).ok=true:=by kernel_rfl
theorem tys98:(E1.types 98).size=12:=by kernel_rfl
theorem tyd98:(E1.types 98).d=.struct [(0,9),(1,39)]:=by kernel_rfl
theorem tyb98:(E1.types 98).bytes=192:=by kernel_rfl
theorem tyz98:cellsOf (zAP (E1.types 98))=[.str [],.int .i64 0,.int .i64 0,.sl 0 [] .nil,.int .i64 0,.int .i64 0,.bool false,.sl 0 [] .nil,.str [],.sl 0 [] .nil,.sl 0 [] .nil,.sl 0 [] .nil]:=by kernel_rfl
theorem tyo98:(E1.types 98).ok=true:=by kernel_rfl
theorem tys100:(E1.types 100).size=23:=by kernel_rfl
theorem tyd100:(E1.types 100).d=.struct [(0,4),(1,39),(12,39)]:=by kernel_rfl
theorem tyb100:(E1.types 100).bytes=360:=by kernel_rfl
theorem tyz100:cellsOf (zAP (E1.types 100))=[.bool false,.int .i64 0,.int .i64 0,.sl 0 [] .nil,.int .i64 0,.int .i64 0,.bool false,.sl 0 [] .nil,.str [],.sl 0 [] .nil,.sl 0 [] .nil,.sl 0 [] .nil,.int .i64 0,.int .i64 0,.sl 0 [] .nil,.int .i64 0,.int .i64 0,.bool false,.sl 0 [] .nil,.str [],.sl 0 [] .nil,.sl 0 [] .nil,.sl 0 [] .nil]:=by kernel_rfl
theorem tyo100:(E1.types 100).ok=true:=by kernel_rfl
theorem tys118:(E1.types 118).size=1:=by kernel_rfl
theorem tyd118:(E1.types 118).d=.func:=by kernel_rfl
theorem tyb118:(E1.types 118).bytes=8:=by kernel_rfl
theorem tyz118:cellsOf (zAP (E1.types 118))=[.nilfunc]:=by kernel_rfl
theorem tyo118:(E1.types 118).ok=true:=by kernel_rfl
theorem tyk118 (cs:List AV)(o:Nat):pick1 (E1.types 118) cs o=lnth cs o:=zA5 (by kernel_rfl) (by kernel_rfl) cs
theorem tys119:(E1.types 119).size=1:=by kernel_rfl
theorem tyd119:(E1.types 119).d=.func:=by kernel_rfl
theorem tyb119:(E1.types 119).bytes=8:=by kernel_rfl
theorem tyz119:cellsOf (zAP (E1.types 119))=[.nilfunc]:=by kernel_rfl
theorem tyo119:(E1.types 119).ok=true:=by kernel_rfl
theorem tyk119 (cs:List AV)(o:Nat):pick1 (E1.types 119) cs o=lnth cs o:=zA5 (by kernel_rfl) (by kernel_rfl) cs
theorem tys122:(E1.types 122).size=8:=by kernel_rfl
theorem tyd122:(E1.types 122).d=.struct [(0,9),(1,37)]:=by kernel_rfl
theorem tyb122:(E1.types 122).bytes=128:=by kernel_rfl
theorem tyz122:cellsOf (zAP (E1.types 122))=[.str [],.int .i64 0,.int .i64 0,.bool false,.sl 0 [] .nil,.str [],.sl 0 [] .nil,.sl 0 [] .nil]:=by kernel_rfl
theorem tyo122:(E1.types 122).ok=true:=by kernel_rfl
theorem tys124:(E1.types 124).size=14:=by kernel_rfl
theorem tyd124:(E1.types 124).d=.struct [(0,9),(1,32),(2,4),(3,39)]:=by kernel_rfl
theorem tyb124:(E1.types 124).bytes=224:=by kernel_rfl
theorem tyz124:cellsOf (zAP (E1.types 124))=[.str [],.sl 0 [] .nil,.bool false,.int .i64 0,.int .i64 0,.sl 0 [] .nil,.int .i64 0,.int .i64 0,.bool false,.sl 0 [] .nil,.str [],.sl 0 [] .nil,.sl 0 [] .nil,.sl 0 [] .nil]:=by kernel_rfl
theorem tyo124:(E1.types 124).ok=true:=by kernel_rfl
theorem tys126:(E1.types 126).size=12:=by kernel_rfl
theorem tyd126:(E1.types 126).d=.struct [(0,9),(1,39)]:=by kernel_rfl
theorem tyb126:(E1.types 126).bytes=192:=by kernel_rfl
theorem tyz126:cellsOf (zAP (E1.types 126))=[.str [],.int .i64 0,.int .i64 0,.sl 0 [] .nil,.int .i64 0,.int .i64 0,.bool false,.sl 0 [] .nil,.str [],.sl 0 [] .nil,.sl 0 [] .nil,.sl 0 [] .nil]:=by kernel_rfl
theorem tyo126:(E1.types 126).ok=true:=by kernel_rfl
theorem tys129:(E1.types 129).size=1:=by kernel_rfl
theorem tyd129:(E1.types 129).d=.func:=by kernel_rfl
theorem tyb129:(E1.types 129).bytes=8:=by kernel_rfl
theorem tyz129:cellsOf (zAP (E1.types 129))=[.nilfunc]:=by kernel_rfl
theorem tyo129:(E1.types 129).ok=true:=by kernel_rfl
theorem tyk129 (cs:List AV)(o:Nat):pick1 (E1.types 129) cs o=lnth cs o:=zA5 (by kernel_rfl) (by kernel_rfl) cs
theorem tys132:(E1.types 132).size=25:=by kernel_rfl
theorem tyd132:(E1.types 132).d=.struct [(0,9),(1,63)]:=by kernel_rfl
theorem tyb132:(E1.types 132).bytes=400:=by kernel_rfl
theorem tyz132:cellsOf (zAP (E1.types 132))=[.str [],.int .i64 0,.int .i64 0,.int .i64 0,.sl 0 [] .nil,.int .i64 0,.int .i64 0,.bool false,.sl 0 [] .nil,.str [],.sl 0 [] .nil,.sl 0 [] .nil,.sl 0 [] .nil,.int .i64 0,.int .i64 0,.sl 0 [] .nil,.int .i64 0,.int .i64 0,.bool false,.sl 0 [] .nil,.str [],.sl 0 [] .nil,.sl 0 [] .nil,.sl 0 [] .nil,.sl 0 [] .nil]:=by kernel_rfl
theorem tyo132:(E1.types 132).ok=true:=by kernel_rfl
theorem tys133:(E1.types 133).size=1:=by kernel_rfl
theorem tyd133:(E1.types 133).d=.func:=by kernel_rfl
theorem tyb133:(E1.types 133).bytes=8:=by kernel_rfl
theorem tyz133:cellsOf (zAP (E1.types 133))=[.nilfunc]:=by kernel_rfl
theorem tyo133:(E1.types 133).ok=true:=by kernel_rfl
theorem tyk133 (cs:List AV)(o:Nat):pick1 (E1.types 133) cs o=lnth cs o:=zA5 (by kernel_rfl) (by kernel_rfl) cs
theorem tys135:(E1.types 135).size=1:=by kernel_rfl
theorem tyd135:(E1.types 135).d=.slice 22:=by kernel_rfl
theorem tyb135:(E1.types 135).bytes=24:=by kernel_rfl
theorem tyz135:cellsOf (zAP (E1.types 135))=[.sl 0 [] .nil]:=by kernel_rfl
theorem tyo135:(E1.types 135).ok=true:=by kernel_rfl
theorem tyk135 (cs:List AV)(o:Nat):pick1 (E1.types 135) cs o=lnth cs o:=zA5 (by kernel_rfl) (by kernel_rfl) cs
theorem tys138:(E1.types 138).size=1:=by kernel_rfl
theorem tyd138:(E1.types 138).d=.int .u64:=by kernel_rfl
theorem tyb138:(E1.types 138).bytes=8:=by kernel_rfl
theorem tyz138:cellsOf (zAP (E1.types 138))=[.int .u64 0]:=by kernel_rfl
theorem tyo138:(E1.types 138).ok=true:=by kernel_rfl
theorem tyk138 (cs:List AV)(o:Nat):pick1 (E1.types 138) cs o=lnth cs o:=zA5 (by kernel_rfl) (by kernel_rfl) cs
theorem tys139:(E1.types 139).size=1:=by kernel_rfl
theorem tyd139:(E1.types 139).d=.other:=by kernel_rfl
theorem tyb139:(E1.types 139).bytes=0:=by kernel_rfl
theorem tyz139:cellsOf (zAP (E1.types 139))=[undef]:=by kernel_rfl
theorem tyo139:(E1.types 139).ok=false:=by kernel_rfl
theorem tyk139 (cs:List AV)(o:Nat):pick1 (E1.types 139) cs o=lnth cs o:=zA5 (by kernel_rfl) (by kernel_rfl) cs
theorem tys152:(E1.types 152).size=1:=by kernel_rfl
theorem tyd152:(E1.types 152).d=.func:=by kernel_rfl
theorem tyb152:(E1.types 152).bytes=8:=by kernel_rfl
theorem tyz152:cellsOf (zAP (E1.types 152))=[.nilfunc]:=by kernel_rfl
theorem tyo152:(E1.types 152).ok=true:=by kernel_rfl
theorem tyk152 (cs:List AV)(o:Nat):pick1 (E1.types 152) cs o=lnth cs o:=zA5 (by kernel_rfl) (by kernel_rfl) cs
theorem tys170:(E1.types 170).size=1:=by kernel_rfl
theorem tyd170:(E1.types 170).d=.slice 31:=by kernel_rfl
theorem tyb170:(E1.types 170).bytes=24:=by kernel_rfl
theorem tyz170:cellsOf (zAP (E1.types 170))=[.sl 0 [] .nil]:=by kernel_rfl
theorem tyo170:(E1.types 170).ok=true:=by kernel_rfl
theorem tyk170 (cs:List AV)(o:Nat):pick1 (E1.types 170) cs o=lnth cs o:=zA5 (by kernel_rfl) (by kernel_rfl) cs
theorem tys174:(E1.types 174).size=1:=by kernel_rfl
theorem tyd174:(E1.types 174).d=.func:=by kernel_rfl
theorem tyb174:(E1.types 174).bytes=8:=by kernel_rfl
theorem tyz174:cellsOf (zAP (E1.types 174))=[.nilfunc]:=by kernel_rfl
theorem tyo174:(E1.types 174).ok=true:=by kernel_rfl
theorem tyk174 (cs:List AV)(o:Nat):pick1 (E1.types 174) cs o=lnth cs o:=zA5 (by kernel_rfl) (by kernel_rfl) cs
theorem tys176:(E1.types 176).size=1:=by kernel_rfl
theorem tyd176:(E1.types 176).d=.int .u32:=by kernel_rfl
theorem tyb176:(E1.types 176).bytes=4:=by kernel_rfl
theorem tyz176:cellsOf (zAP (E1.types 176))=[.int .u32 0]:=by kernel_rfl
theorem tyo176:(E1.types 176).ok=true:=by kernel_rfl
theorem tyk176 (cs:List AV)(o:Nat):pick1 (E1.types 176) cs o=lnth cs o:=zA5 (by kernel_rfl) (by kernel_rfl) cs
theorem tys177:(E1.types 177).size=1:=by kernel_rfl
theorem tyd177:(E1.types 177).d=.other:=by kernel_rfl
theorem tyb177:(E1.types 177).bytes=0:=by kernel_rfl
theorem tyz177:cellsOf (zAP (E1.types 177))=[undef]:=by kernel_rfl
theorem tyo177:(E1.types 177).ok=false:=by kernel_rfl
theorem tyk177 (cs:List AV)(o:Nat):pick1 (E1.types 177) cs o=lnth cs o:=zA5 (by kernel_rfl) (by kernel_rfl) cs
theorem tys179:(E1.types 179).size=1:=by kernel_rfl
theorem tyd179:(E1.types 179).d=.int .u64:=by kernel_rfl
theorem tyb179:(E1.types 179).bytes=8:=by kernel_rfl
theorem tyz179:cellsOf (zAP (E1.types 179))=[.int .u64 0]:=by kernel_rfl
theorem tyo179:(E1.types 179).ok=true:=by kernel_rfl
theorem tyk179 (cs:List AV)(o:Nat):pick1 (E1.types 179) cs o=lnth cs o:=zA5 (by kernel_rfl) (by kernel_rfl) cs
theorem tys180:(E1.types 180).size=1:=by kernel_rfl
theorem tyd180:(E1.types 180).d=.other:=by kernel_rfl
theorem tyb180:(E1.types 180).bytes=0:=by kernel_rfl
theorem tyz180:cellsOf (zAP (E1.types 180))=[undef]:=by kernel_rfl
theorem tyo180:(E1.types 180).ok=false:=by kernel_rfl
theorem tyk180 (cs:List AV)(o:Nat):pick1 (E1.types 180) cs o=lnth cs o:=zA5 (by kernel_rfl) (by kernel_rfl) cs
attribute [go_sem] tys0 tyd0 tyb0 tyz0 tyo0 tyk0 tys3 tyd3 tyb3 tyz3 tyo3 tyk3 tys4 tyd4 tyb4 tyz4 tyo4 tyk4 tys9 tyd9 tyb9 tyz9 tyo9 tyk9 tys20 tyd20 tyb20 tyz20 tyo20 tyk20 tys22 tyd22 tyb22 tyz22 tyo22 tyk22 tys24 tyd24 tyb24 tyz24 tyo24 tys27 tyd27 tyb27 tyz27 tyo27 tyk27 tys28 tyd28 tyb28 tyz28 tyo28 tyk28 tys29 tyd29 tyb29 tyz29 tyo29 tyk29 tys30 tyd30 tyb30 tyz30 tyo30 tyk30 tys31 tyd31 tyb31 tyz31 tyo31 tyk31 tys32 tyd32 tyb32 tyz32 tyo32 tyk32 tys34 tyd34 tyb34 tyz34 tyo34 tys35 tyd35 tyb35 tyz35 tyo35 tyk35 tys37 tyd37 tyb37 tyz37 tyo37 tys39 tyd39 tyb39 tyz39 tyo39 tys40 tyd40 tyb40 tyz40 tyo40 tyk40 tys41 tyd41 tyb41 tyz41 tyo41 tyk41 tys42 tyd42 tyb42 tyz42 tyo42 tyk42 tys43 tyd43 tyb43 tyz43 tyo43 tyk43 tys45 tyd45 tyb45 tyz45 tyo45 tys46 tyd46 tyb46 tyz46 tyo46 tyk46 tys47 tyd47 tyb47 tyz47 tyo47 tyk47 tys48 tyd48 tyb48 tyz48 tyo48 tyk48 tys55 tyd55 tyb55 tyz55 tyo55 tyk55 tys61 tyd61 tyb61 tyz61 tyo61 tyk61 tys63 tyd63 tyb63 tyz63 tyo63 tys77 tyd77 tyb77 tyz77 tyo77 tyk77 tys79 tyd79 tyb79 tyz79 tyo79 tys84 tyd84 tyb84 tyz84 tyo84 tyk84 tys92 tyd92 tyb92 tyz92 tyo92 tyk92 tys96 tyd96 tyb96 tyz96 tyo96 tys98 tyd98 tyb98 tyz98 tyo98 tys100 tyd100 tyb100 tyz100 tyo100 tys118 tyd118 tyb118 tyz118 tyo118 tyk118 tys119 tyd119 tyb119 tyz119 tyo119 tyk119 tys122 tyd122 tyb122 tyz122 tyo122 tys124 tyd124 tyb124 tyz124 tyo124 tys126 tyd126 tyb126 tyz126 tyo126 tys129 tyd129 tyb129 tyz129 tyo129 tyk129 tys132 tyd132 tyb132 tyz132 tyo132 tys133 tyd133 tyb133 tyz133 tyo133 tyk133 tys135 tyd135 tyb135 tyz135 tyo135 tyk135 tys138 tyd138 tyb138 tyz138 tyo138 tyk138 tys139 tyd139 tyb139 tyz139 tyo139 tyk139 tys152 tyd152 tyb152 tyz152 tyo152 tyk152 tys170 tyd170 tyb170 tyz170 tyo170 tyk170 tys174 tyd174 tyb174 tyz174 tyo174 tyk174 tys176 tyd176 tyb176 tyz176 tyo176 tyk176 tys177 tyd177 tyb177 tyz177 tyo177 tyk177 tys179 tyd179 tyb179 tyz179 tyo179 tyk179 tys180 tyd180 tyb180 tyz180 tyo180 tyk180
theorem pk_Def {a:Pl.Def}:pick1 (E1.types 124) (zCU a) 0=some (zGH a):=by kernel_rfl
theorem pd_Def3 {a:Pl.Def}:pick1 (E1.types 39) (List.drop 3 (zCU a)) 0=some (encX a.body):=by rw[zB7];kernel_rfl
theorem pk_Def3 {a:Pl.Def}:pick1 (E1.types 39) (zCU a) 3=some (encX a.body):=by rw[zB7];kernel_rfl
theorem pk_Var {a:Pl.Var}:pick1 (E1.types 98) (zET a) 0=some (zIF a):=by kernel_rfl
theorem pd_Var1 {a:Pl.Var}:pick1 (E1.types 39) (List.drop 1 (zET a)) 0=some (encX a.typ):=by rw[zB7];kernel_rfl
theorem pk_Var1 {a:Pl.Var}:pick1 (E1.types 39) (zET a) 1=some (encX a.typ):=by rw[zB7];kernel_rfl
theorem pk_Const {a:Pl.Const}:pick1 (E1.types 122) (zC5 a) 0=some (zD9 a):=by kernel_rfl
theorem zW6 {a:Pl.Const}:pick1 (E1.types 37) (List.drop 1 (zC5 a)) 0=some (encV a.v):=by rw[zE2];kernel_rfl
theorem zW1 {a:Pl.Const}:pick1 (E1.types 37) (zC5 a) 1=some (encV a.v):=by rw[zE2];kernel_rfl
theorem pk_Named {a:Pl.Named}:pick1 (E1.types 126) (zC4 a) 0=some (zD8 a):=by kernel_rfl
theorem zW4 {a:Pl.Named}:pick1 (E1.types 39) (List.drop 1 (zC4 a)) 0=some (encX a.e):=by rw[zB7];kernel_rfl
theorem zWZ {a:Pl.Named}:pick1 (E1.types 39) (zC4 a) 1=some (encX a.e):=by rw[zB7];kernel_rfl
theorem pk_Fair {a:Pl.Fair}:pick1 (E1.types 100) (zCR a) 0=some (zHH a):=by kernel_rfl
theorem pd_Fair1 {a:Pl.Fair}:pick1 (E1.types 39) (List.drop 1 (zCR a)) 0=some (encX a.a):=by rw[zB7];kernel_rfl
theorem pk_Fair1 {a:Pl.Fair}:pick1 (E1.types 39) (zCR a) 1=some (encX a.a):=by rw[zB7];kernel_rfl
theorem zW5 {a:Pl.Fair}:pick1 (E1.types 39) (List.drop 12 (zCR a)) 0=some (encX a.sub):=by rw[zB7];kernel_rfl
theorem zW0 {a:Pl.Fair}:pick1 (E1.types 39) (zCR a) 12=some (encX a.sub):=by rw[zB7];kernel_rfl
theorem pk_Prp {a:Pl.Prp}:pick1 (E1.types 132) (zGS a) 0=some (zIG a):=by kernel_rfl
theorem pk_Spec {a:Pl.Spec}:pick1 (E1.types 45) (zAL a) 0=some (zFS a):=by kernel_rfl
theorem pd_Spec5 {a:Pl.Spec}:pick1 (E1.types 39) (List.drop 5 (zAL a)) 0=some (encX a.init):=by rw[zB7];kernel_rfl
theorem pk_Spec5 {a:Pl.Spec}:pick1 (E1.types 39) (zAL a) 5=some (encX a.init):=by rw[zB7];kernel_rfl
theorem zW3 {a:Pl.Spec}:pick1 (E1.types 39) (List.drop 16 (zAL a)) 0=some (encX a.next):=by rw[zB7];kernel_rfl
theorem zWY {a:Pl.Spec}:pick1 (E1.types 39) (zAL a) 16=some (encX a.next):=by rw[zB7];kernel_rfl
theorem pk_V {a:Pl.V}:pick1 (E1.types 37) (zBY a) 0=some (encV a):=by rw[zE2];kernel_rfl
theorem pk_X {a:Pl.X}:pick1 (E1.types 39) (zA1 a) 0=some (encX a):=by rw[zB7];kernel_rfl
theorem pk_XV {a:Pl.X}:pick1 (E1.types 37) (zA1 a) 3=some (encV a.v):=by rw[zE2];kernel_rfl
theorem pk_VI {a:Pl.V}:pick1 (E1.types 34) (zBY a) 2=some (.agg [.bool a.neg,.sl 0 (a.d.map iv) .shut]):=by kernel_rfl
theorem pk_XVI {a:Pl.X}:pick1 (E1.types 34) (zA1 a) 5=some (.agg [.bool a.v.neg,.sl 0 (a.v.d.map iv) .shut]):=by kernel_rfl
theorem pk_Las {a:Pl.Las}:pick1 (E1.types 24) (zAN a) 0=some (zAK a):=by kernel_rfl
theorem nLas0 {a:Pl.Las}:lnth (zAN a) 0=some (.sl 0 (a.st.map zAD) .shut):=(rfl)
theorem dLas0 {a:Pl.Las}:lnth (List.drop 0 (zAN a)) 0=some (.sl 0 (a.st.map zAD) .shut):=(rfl)
theorem nLas1 {a:Pl.Las}:lnth (zAN a) 1=some (.int .i64 a.back):=(rfl)
theorem dLas1 {a:Pl.Las}:lnth (List.drop 1 (zAN a)) 0=some (.int .i64 a.back):=(rfl)
theorem nX0 {a:Pl.X}:lnth (zA1 a) 0=some (.int .i64 a.kind):=(rfl)
theorem dX0 {a:Pl.X}:lnth (List.drop 0 (zA1 a)) 0=some (.int .i64 a.kind):=(rfl)
theorem nX1 {a:Pl.X}:lnth (zA1 a) 1=some (.int .i64 a.n):=(rfl)
theorem dX1 {a:Pl.X}:lnth (List.drop 1 (zA1 a)) 0=some (.int .i64 a.n):=(rfl)
theorem nX2 {a:Pl.X}:lnth (zA1 a) 2=some (.sl 0 (a.s.map AV.str) .shut):=(rfl)
theorem dX2 {a:Pl.X}:lnth (List.drop 2 (zA1 a)) 0=some (.sl 0 (a.s.map AV.str) .shut):=(rfl)
theorem nX3 {a:Pl.X}:lnth (zA1 a) 3=some (.int .i64 a.v.kind):=(rfl)
theorem dX3 {a:Pl.X}:lnth (List.drop 3 (zA1 a)) 0=some (.int .i64 a.v.kind):=(rfl)
theorem nX4 {a:Pl.X}:lnth (zA1 a) 4=some (.int .i64 a.v.n):=(rfl)
theorem dX4 {a:Pl.X}:lnth (List.drop 4 (zA1 a)) 0=some (.int .i64 a.v.n):=(rfl)
theorem nX5 {a:Pl.X}:lnth (zA1 a) 5=some (.bool a.v.neg):=(rfl)
theorem dX5 {a:Pl.X}:lnth (List.drop 5 (zA1 a)) 0=some (.bool a.v.neg):=(rfl)
theorem nX6 {a:Pl.X}:lnth (zA1 a) 6=some (.sl 0 (a.v.d.map iv) .shut):=(rfl)
theorem dX6 {a:Pl.X}:lnth (List.drop 6 (zA1 a)) 0=some (.sl 0 (a.v.d.map iv) .shut):=(rfl)
theorem nX7 {a:Pl.X}:lnth (zA1 a) 7=some (.str a.v.s):=(rfl)
theorem dX7 {a:Pl.X}:lnth (List.drop 7 (zA1 a)) 0=some (.str a.v.s):=(rfl)
theorem nX8 {a:Pl.X}:lnth (zA1 a) 8=some (.sl 0 (a.v.l.map encV) .shut):=(rfl)
theorem dX8 {a:Pl.X}:lnth (List.drop 8 (zA1 a)) 0=some (.sl 0 (a.v.l.map encV) .shut):=(rfl)
theorem nX9 {a:Pl.X}:lnth (zA1 a) 9=some (.sl 0 (a.v.m.map encV) .shut):=(rfl)
theorem dX9 {a:Pl.X}:lnth (List.drop 9 (zA1 a)) 0=some (.sl 0 (a.v.m.map encV) .shut):=(rfl)
theorem nX10 {a:Pl.X}:lnth (zA1 a) 10=some (.sl 0 (a.l.map encX) .shut):=(rfl)
theorem dX10 {a:Pl.X}:lnth (List.drop 10 (zA1 a)) 0=some (.sl 0 (a.l.map encX) .shut):=(rfl)
theorem nV0 {a:Pl.V}:lnth (zBY a) 0=some (.int .i64 a.kind):=(rfl)
theorem dV0 {a:Pl.V}:lnth (List.drop 0 (zBY a)) 0=some (.int .i64 a.kind):=(rfl)
theorem nV1 {a:Pl.V}:lnth (zBY a) 1=some (.int .i64 a.n):=(rfl)
theorem dV1 {a:Pl.V}:lnth (List.drop 1 (zBY a)) 0=some (.int .i64 a.n):=(rfl)
theorem nV2 {a:Pl.V}:lnth (zBY a) 2=some (.bool a.neg):=(rfl)
theorem dV2 {a:Pl.V}:lnth (List.drop 2 (zBY a)) 0=some (.bool a.neg):=(rfl)
theorem nV3 {a:Pl.V}:lnth (zBY a) 3=some (.sl 0 (a.d.map iv) .shut):=(rfl)
theorem dV3 {a:Pl.V}:lnth (List.drop 3 (zBY a)) 0=some (.sl 0 (a.d.map iv) .shut):=(rfl)
theorem nV4 {a:Pl.V}:lnth (zBY a) 4=some (.str a.s):=(rfl)
theorem dV4 {a:Pl.V}:lnth (List.drop 4 (zBY a)) 0=some (.str a.s):=(rfl)
theorem nV5 {a:Pl.V}:lnth (zBY a) 5=some (.sl 0 (a.l.map encV) .shut):=(rfl)
theorem dV5 {a:Pl.V}:lnth (List.drop 5 (zBY a)) 0=some (.sl 0 (a.l.map encV) .shut):=(rfl)
theorem nV6 {a:Pl.V}:lnth (zBY a) 6=some (.sl 0 (a.m.map encV) .shut):=(rfl)
theorem dV6 {a:Pl.V}:lnth (List.drop 6 (zBY a)) 0=some (.sl 0 (a.m.map encV) .shut):=(rfl)
theorem nDef0 {a:Pl.Def}:lnth (zCU a) 0=some (.str a.name):=(rfl)
theorem dDef0 {a:Pl.Def}:lnth (List.drop 0 (zCU a)) 0=some (.str a.name):=(rfl)
theorem nDef1 {a:Pl.Def}:lnth (zCU a) 1=some (.sl 0 (a.params.map iv) .shut):=(rfl)
theorem dDef1 {a:Pl.Def}:lnth (List.drop 1 (zCU a)) 0=some (.sl 0 (a.params.map iv) .shut):=(rfl)
theorem nDef2 {a:Pl.Def}:lnth (zCU a) 2=some (.bool a.recu):=(rfl)
theorem dDef2 {a:Pl.Def}:lnth (List.drop 2 (zCU a)) 0=some (.bool a.recu):=(rfl)
theorem nVar0 {a:Pl.Var}:lnth (zET a) 0=some (.str a.name):=(rfl)
theorem dVar0 {a:Pl.Var}:lnth (List.drop 0 (zET a)) 0=some (.str a.name):=(rfl)
theorem nConst0 {a:Pl.Const}:lnth (zC5 a) 0=some (.str a.name):=(rfl)
theorem dConst0 {a:Pl.Const}:lnth (List.drop 0 (zC5 a)) 0=some (.str a.name):=(rfl)
theorem nNamed0 {a:Pl.Named}:lnth (zC4 a) 0=some (.str a.name):=(rfl)
theorem dNamed0 {a:Pl.Named}:lnth (List.drop 0 (zC4 a)) 0=some (.str a.name):=(rfl)
theorem nFair0 {a:Pl.Fair}:lnth (zCR a) 0=some (.bool a.strong):=(rfl)
theorem dFair0 {a:Pl.Fair}:lnth (List.drop 0 (zCR a)) 0=some (.bool a.strong):=(rfl)
theorem nPrp0 {a:Pl.Prp}:lnth (zGS a) 0=some (.str a.name):=(rfl)
theorem dPrp0 {a:Pl.Prp}:lnth (List.drop 0 (zGS a)) 0=some (.str a.name):=(rfl)
theorem nSpec0 {a:Pl.Spec}:lnth (zAL a) 0=some (.sl 0 (a.models.map AV.str) .shut):=(rfl)
theorem dSpec0 {a:Pl.Spec}:lnth (List.drop 0 (zAL a)) 0=some (.sl 0 (a.models.map AV.str) .shut):=(rfl)
theorem nSpec1 {a:Pl.Spec}:lnth (zAL a) 1=some (.sl 0 (a.consts.map zD9) .shut):=(rfl)
theorem dSpec1 {a:Pl.Spec}:lnth (List.drop 1 (zAL a)) 0=some (.sl 0 (a.consts.map zD9) .shut):=(rfl)
theorem nSpec2 {a:Pl.Spec}:lnth (zAL a) 2=some (.sl 0 (a.vars.map zIF) .shut):=(rfl)
theorem dSpec2 {a:Pl.Spec}:lnth (List.drop 2 (zAL a)) 0=some (.sl 0 (a.vars.map zIF) .shut):=(rfl)
theorem nSpec3 {a:Pl.Spec}:lnth (zAL a) 3=some (.sl 0 (a.defs.map zGH) .shut):=(rfl)
theorem dSpec3 {a:Pl.Spec}:lnth (List.drop 3 (zAL a)) 0=some (.sl 0 (a.defs.map zGH) .shut):=(rfl)
theorem nSpec4 {a:Pl.Spec}:lnth (zAL a) 4=some (.sl 0 (a.assume.map encX) .shut):=(rfl)
theorem dSpec4 {a:Pl.Spec}:lnth (List.drop 4 (zAL a)) 0=some (.sl 0 (a.assume.map encX) .shut):=(rfl)
theorem nSpec27 {a:Pl.Spec}:lnth (zAL a) 27=some (.sl 0 (a.fair.map zHH) .shut):=(rfl)
theorem dSpec27 {a:Pl.Spec}:lnth (List.drop 27 (zAL a)) 0=some (.sl 0 (a.fair.map zHH) .shut):=(rfl)
theorem nSpec28 {a:Pl.Spec}:lnth (zAL a) 28=some (.sl 0 (a.invs.map zD8) .shut):=(rfl)
theorem dSpec28 {a:Pl.Spec}:lnth (List.drop 28 (zAL a)) 0=some (.sl 0 (a.invs.map zD8) .shut):=(rfl)
theorem nSpec29 {a:Pl.Spec}:lnth (zAL a) 29=some (.sl 0 (a.props.map zIG) .shut):=(rfl)
theorem dSpec29 {a:Pl.Spec}:lnth (List.drop 29 (zAL a)) 0=some (.sl 0 (a.props.map zIG) .shut):=(rfl)
theorem nSpec30 {a:Pl.Spec}:lnth (zAL a) 30=some (.sl 0 (a.cons.map encX) .shut):=(rfl)
theorem dSpec30 {a:Pl.Spec}:lnth (List.drop 30 (zAL a)) 0=some (.sl 0 (a.cons.map encX) .shut):=(rfl)
theorem nSpec31 {a:Pl.Spec}:lnth (zAL a) 31=some (.sl 0 (a.acons.map encX) .shut):=(rfl)
theorem dSpec31 {a:Pl.Spec}:lnth (List.drop 31 (zAL a)) 0=some (.sl 0 (a.acons.map encX) .shut):=(rfl)
theorem nSpec32 {a:Pl.Spec}:lnth (zAL a) 32=some (.sl 0 (a.groups.map slS) .shut):=(rfl)
theorem dSpec32 {a:Pl.Spec}:lnth (List.drop 32 (zAL a)) 0=some (.sl 0 (a.groups.map slS) .shut):=(rfl)
theorem nSpec33 {a:Pl.Spec}:lnth (zAL a) 33=some (.sl 0 (a.view.map encX) .shut):=(rfl)
theorem dSpec33 {a:Pl.Spec}:lnth (List.drop 33 (zAL a)) 0=some (.sl 0 (a.view.map encX) .shut):=(rfl)
theorem nSpec34 {a:Pl.Spec}:lnth (zAL a) 34=some (.bool a.dead):=(rfl)
theorem dSpec34 {a:Pl.Spec}:lnth (List.drop 34 (zAL a)) 0=some (.bool a.dead):=(rfl)
attribute [go_sem] pk_VI pk_XVI pk_V pk_X pk_XV pk_Def pk_Def3 pk_Var pk_Var1 pk_Const zW1 pk_Named zWZ pk_Fair pk_Fair1 zW0 pk_Spec pk_Spec5 zWY pk_Prp pk_Las nLas0 dLas0 nLas1 dLas1 nX0 dX0 nX1 dX1 nX2 dX2 nX3 dX3 nX4 dX4 nX5 dX5 nX6 dX6 nX7 dX7 nX8 dX8 nX9 dX9 nX10 dX10 nV0 dV0 nV1 dV1 nV2 dV2 nV3 dV3 nV4 dV4 nV5 dV5 nV6 dV6 nDef0 dDef0 nDef1 dDef1 nDef2 dDef2 nVar0 dVar0 nConst0 dConst0 nNamed0 dNamed0 nFair0 dFair0 nPrp0 dPrp0 nSpec0 dSpec0 nSpec1 dSpec1 nSpec2 dSpec2 nSpec3 dSpec3 nSpec4 dSpec4 nSpec27 dSpec27 nSpec28 dSpec28 nSpec29 dSpec29 nSpec30 dSpec30 nSpec31 dSpec31 nSpec32 dSpec32 nSpec33 dSpec33 nSpec34 dSpec34 pd_Def3 pd_Var1 zW6 zW4 pd_Fair1 zW5 pd_Spec5 zW3
theorem pl3_23:E1.plan 3 23=[.q 0,.q 1,.q 2,.q 3,.q 4,.q 5,.l 6,.q 7,.q 8,.q 9,.q 10,.q 12,.q 13,.l 11,.chk 13,.chk 12,.l 14,.q 15,.q 16,.q 17,.q 18,.q 19,.q 21,.l 20,.chk 21,.l 22,.q 23,.q 24,.l 25]:=by kernel_rfl
theorem pl4_12:E1.plan 4 12=[.q 0,.q 1,.q 2,.q 3,.q 4,.q 5,.q 6,.q 7,.q 8,.q 9,.l 10,.q 11,.q 12,.q 13,.q 14,.l 15,.q 16,.q 17,.q 18,.q 19,.l 20,.q 21,.q 22,.q 23,.q 24,.l 25,.q 26,.q 27,.q 28,.q 29,.q 31,.q 32,.l 30,.chk 32,.chk 31,.l 33,.q 34,.q 35,.q 36,.q 37,.q 38,.q 40,.q 41,.l 39,.chk 41,.chk 40,.l 42,.q 43,.q 44,.l 45]:=by kernel_rfl
theorem pl7_5:E1.plan 7 5=[.q 0,.q 1,.q 2,.q 3,.q 4,.q 5,.q 6,.q 7,.q 8,.q 9,.q 10,.l 11,.l 12,.l 13]:=by kernel_rfl
theorem pl7_6:E1.plan 7 6=[.q 0,.q 1,.q 2,.q 3,.q 4,.q 5,.q 6,.q 7,.q 8,.q 9,.q 10,.l 11,.l 12,.l 13,.l 14]:=by kernel_rfl
theorem pl8_6:E1.plan 8 6=[.q 0,.q 1,.q 2,.q 3,.q 4,.q 5,.l 6,.q 7,.l 8]:=by kernel_rfl
theorem pl8_10:E1.plan 8 10=[.q 0,.q 1,.q 2,.q 3,.q 4,.q 5,.q 6,.q 7,.l 8,.q 9,.l 10]:=by kernel_rfl
theorem pl10_5:E1.plan 10 5=[.q 0,.q 1,.q 3,.q 4,.q 5,.q 6,.q 7,.q 8,.q 9,.q 10,.q 13,.q 14,.l 2,.chk 14,.chk 8,.chk 7,.chk 5,.l 11,.chk 14,.l 12,.chk 14,.q 15,.l 16,.chk 14,.l 17]:=by kernel_rfl
theorem pl11_8:E1.plan 11 8=[.q 0,.q 1,.q 2,.q 3,.q 4,.q 5,.q 6,.l 7,.q 8,.l 9]:=by kernel_rfl
theorem pl11_12:E1.plan 11 12=[.q 0,.q 1,.q 2,.q 3,.q 4,.q 5,.q 6,.q 7,.l 8,.q 9,.l 10]:=by kernel_rfl
theorem pl11_13:E1.plan 11 13=[.q 0,.q 1,.q 2,.q 3,.q 4,.q 5,.q 6,.l 7,.q 8,.l 9]:=by kernel_rfl
theorem pl12_4:E1.plan 12 4=[.q 0,.q 1,.q 3,.q 4,.l 2,.chk 4,.q 5,.l 6,.chk 4,.l 7]:=by kernel_rfl
theorem pl12_7:E1.plan 12 7=[.q 0,.q 1,.q 2,.q 3,.q 4,.q 5,.q 6,.q 7,.q 8,.l 9,.q 10,.l 11]:=by kernel_rfl
theorem pl13_12:E1.plan 13 12=[.q 0,.q 1,.q 2,.q 3,.q 4,.q 5,.q 6,.q 7,.q 8,.l 9,.q 10,.l 11]:=by kernel_rfl
theorem pl14_7:E1.plan 14 7=[.q 0,.q 1,.q 2,.q 3,.q 4,.q 5,.q 6,.q 7,.q 8,.q 9,.q 10,.l 11,.chk 4,.chk 3,.chk 1,.l 12,.l 13,.l 14]:=by kernel_rfl
theorem pl15_8:E1.plan 15 8=[.q 0,.q 1,.q 2,.q 3,.q 4,.q 5,.q 6,.l 7,.q 8,.l 9]:=by kernel_rfl
theorem pl15_12:E1.plan 15 12=[.q 0,.q 1,.q 2,.q 3,.q 4,.q 5,.q 6,.l 7,.q 8,.l 9]:=by kernel_rfl
theorem pl17_9:E1.plan 17 9=[.q 0,.q 1,.q 2,.q 3,.q 4,.q 5,.q 6,.q 7,.q 8,.q 9,.q 10,.q 11,.q 12,.q 13,.q 14,.l 15,.q 16]:=by kernel_rfl
theorem pl17_14:E1.plan 17 14=[.q 0,.q 1,.q 2,.q 3,.q 4,.q 5,.q 6,.q 7,.q 8,.q 9,.q 10,.q 11,.q 12,.q 13,.q 14,.q 15,.l 16,.q 17]:=by kernel_rfl
theorem pl18_3:E1.plan 18 3=[.q 0,.q 2,.l 1,.chk 2,.l 3,.l 4,.l 5,.l 6,.l 7]:=by kernel_rfl
theorem pl36_6:E1.plan 36 6=[.q 0,.q 1,.q 2,.q 3,.q 4,.q 5,.q 6,.q 7,.q 8,.q 9,.l 10,.q 11]:=by kernel_rfl
theorem pl46_11:E1.plan 46 11=[.q 0,.q 1,.q 2,.q 3,.q 4,.q 5,.q 6,.q 7,.l 8]:=by kernel_rfl
theorem pl46_15:E1.plan 46 15=[.q 0,.q 1,.q 2,.q 3,.q 4,.q 5,.q 6,.q 7,.l 8]:=by kernel_rfl
theorem pl48_9:E1.plan 48 9=[.q 0,.q 1,.q 2,.q 3,.q 4,.q 5,.q 6,.l 7,.q 8,.l 9]:=by kernel_rfl
theorem pl50_1:E1.plan 50 1=[.q 0,.q 1,.q 2,.q 3,.q 4,.q 6,.q 7,.q 8,.q 9,.q 10,.l 5,.chk 10,.chk 9,.chk 7,.l 11,.l 12,.l 13]:=by kernel_rfl
theorem pl50_2:E1.plan 50 2=[.q 0,.q 1,.q 2,.q 3,.q 4,.q 5,.q 6,.q 7,.q 8,.q 9,.q 10,.q 11,.q 12,.l 13,.q 14]:=by kernel_rfl
theorem pl50_7:E1.plan 50 7=[.q 0,.q 1,.q 2,.q 3,.q 4,.q 5,.q 6,.q 7,.q 8,.q 9,.q 10,.l 11,.q 12]:=by kernel_rfl
theorem pl50_11:E1.plan 50 11=[.q 0,.q 1,.q 2,.q 3,.q 4,.q 5,.q 6,.q 7,.q 8,.q 9,.q 10,.q 11,.q 12,.q 13,.l 14,.q 15]:=by kernel_rfl
theorem pl50_13:E1.plan 50 13=[.q 0,.q 1,.q 2,.q 3,.q 4,.q 5,.q 6,.q 7,.q 8,.q 9,.q 10,.q 11,.l 12,.l 13]:=by kernel_rfl
theorem pl51_5:E1.plan 51 5=[.q 0,.q 1,.q 2,.q 3,.q 4,.q 5,.q 6,.q 7,.q 8,.q 9,.q 10,.q 11,.l 12,.q 13,.q 14]:=by kernel_rfl
theorem pl53_8:E1.plan 53 8=[.q 0,.q 1,.q 2,.q 3,.q 4,.q 5,.q 6,.q 7,.q 8,.q 9,.l 10,.l 11]:=by kernel_rfl
theorem pl88_8:E1.plan 88 8=[.q 0,.q 1,.q 2,.q 3,.q 4,.q 5,.q 6,.q 7,.q 8,.q 9,.l 10,.q 11]:=by kernel_rfl
theorem pl89_4:E1.plan 89 4=[.q 0,.q 1,.q 2,.q 3,.q 4,.q 5,.q 6,.q 7,.l 8,.l 9]:=by kernel_rfl
theorem pl101_1:E1.plan 101 1=[.q 0,.q 1,.q 2,.q 3,.q 5,.q 6,.q 7,.q 8,.l 4,.chk 8,.chk 6,.l 9,.q 10,.l 11,.l 12]:=by kernel_rfl
theorem pl101_4:E1.plan 101 4=[.q 0,.q 1,.q 2,.q 3,.q 5,.q 6,.q 7,.q 8,.l 4,.chk 8,.chk 6,.l 9,.q 10,.l 11,.l 12]:=by kernel_rfl
theorem pl125_6:E1.plan 125 6=[.q 0,.q 1,.q 2,.q 3,.q 4,.q 5,.q 6,.q 7,.q 8,.q 9,.l 10]:=by kernel_rfl
theorem pl125_11:E1.plan 125 11=[.q 0,.q 1,.q 2,.q 3,.q 4,.q 5,.q 6,.q 7,.q 8,.q 9,.l 10,.q 11]:=by kernel_rfl
theorem pl137_9:E1.plan 137 9=[.q 0,.q 1,.q 2,.q 3,.q 4,.q 5,.q 6,.q 7,.q 8,.q 9,.l 10,.l 11]:=by kernel_rfl
theorem pl139_7:E1.plan 139 7=[.q 0,.q 1,.q 2,.q 3,.q 4,.q 5,.q 6,.q 7,.q 8,.l 9,.l 10]:=by kernel_rfl
theorem pl147_3:E1.plan 147 3=[.q 0,.q 1,.q 2,.q 3,.q 4,.q 5,.q 6,.q 7,.q 8,.q 9,.q 10,.q 11,.q 12,.l 13,.q 14,.l 15]:=by kernel_rfl
theorem pl151_6:E1.plan 151 6=[.q 0,.q 1,.q 2,.q 3,.q 4,.q 5,.q 6,.q 7,.l 8,.l 9]:=by kernel_rfl
theorem pl185_6:E1.plan 185 6=[.q 0,.q 1,.q 2,.q 3,.q 4,.q 5,.q 6,.q 7,.q 8]:=by kernel_rfl
theorem pl185_7:E1.plan 185 7=[.q 0,.q 1,.q 2,.q 3,.q 4,.q 5,.q 6,.q 7,.l 8,.l 9]:=by kernel_rfl
attribute [go_sem] pl3_23 pl4_12 pl7_5 pl7_6 pl8_6 pl8_10 pl10_5 pl11_8 pl11_12 pl11_13 pl12_4 pl12_7 pl13_12 pl14_7 pl15_8 pl15_12 pl17_9 pl17_14 pl18_3 pl36_6 pl46_11 pl46_15 pl48_9 pl50_1 pl50_2 pl50_7 pl50_11 pl50_13 pl51_5 pl53_8 pl88_8 pl89_4 pl101_1 pl101_4 pl125_6 pl125_11 pl137_9 pl139_7 pl147_3 pl151_6 pl185_6 pl185_7
theorem md3:E1.mode 3=⟨true,false,false,false⟩:=by kernel_rfl
theorem md4:E1.mode 4=⟨true,false,false,false⟩:=by kernel_rfl
theorem md6:E1.mode 6=⟨true,false,false,false⟩:=by kernel_rfl
theorem md7:E1.mode 7=⟨true,false,false,false⟩:=by kernel_rfl
theorem md8:E1.mode 8=⟨true,false,false,false⟩:=by kernel_rfl
theorem md9:E1.mode 9=⟨true,false,false,false⟩:=by kernel_rfl
theorem md10:E1.mode 10=⟨true,false,false,false⟩:=by kernel_rfl
theorem md11:E1.mode 11=⟨true,false,false,false⟩:=by kernel_rfl
theorem md12:E1.mode 12=⟨true,false,false,false⟩:=by kernel_rfl
theorem md13:E1.mode 13=⟨true,false,false,false⟩:=by kernel_rfl
theorem md14:E1.mode 14=⟨true,false,false,false⟩:=by kernel_rfl
theorem md15:E1.mode 15=⟨true,false,false,false⟩:=by kernel_rfl
theorem md16:E1.mode 16=⟨true,false,false,false⟩:=by kernel_rfl
theorem md17:E1.mode 17=⟨true,false,false,false⟩:=by kernel_rfl
theorem md18:E1.mode 18=⟨true,false,false,false⟩:=by kernel_rfl
theorem md19:E1.mode 19=⟨true,false,false,false⟩:=by kernel_rfl
theorem md20:E1.mode 20=⟨true,false,false,false⟩:=by kernel_rfl
theorem md21:E1.mode 21=⟨true,false,false,false⟩:=by kernel_rfl
theorem md36:E1.mode 36=⟨true,false,false,false⟩:=by kernel_rfl
theorem md38:E1.mode 38=⟨false,false,false,false⟩:=by kernel_rfl
theorem md39:E1.mode 39=⟨false,false,false,false⟩:=by kernel_rfl
theorem md40:E1.mode 40=⟨false,false,false,false⟩:=by kernel_rfl
theorem md41:E1.mode 41=⟨false,false,false,false⟩:=by kernel_rfl
theorem md42:E1.mode 42=⟨false,false,false,false⟩:=by kernel_rfl
theorem md43:E1.mode 43=⟨true,false,false,false⟩:=by kernel_rfl
theorem md44:E1.mode 44=⟨true,false,false,false⟩:=by kernel_rfl
theorem md45:E1.mode 45=⟨false,false,true,false⟩:=by kernel_rfl
theorem md46:E1.mode 46=⟨true,false,false,false⟩:=by kernel_rfl
theorem md47:E1.mode 47=⟨false,false,true,false⟩:=by kernel_rfl
theorem md48:E1.mode 48=⟨false,false,true,false⟩:=by kernel_rfl
theorem md49:E1.mode 49=⟨true,false,false,false⟩:=by kernel_rfl
theorem md50:E1.mode 50=⟨true,false,false,false⟩:=by kernel_rfl
theorem md51:E1.mode 51=⟨true,false,false,false⟩:=by kernel_rfl
theorem md52:E1.mode 52=⟨true,false,false,false⟩:=by kernel_rfl
theorem md53:E1.mode 53=⟨true,false,false,false⟩:=by kernel_rfl
theorem md54:E1.mode 54=⟨false,false,false,false⟩:=by kernel_rfl
theorem md55:E1.mode 55=⟨true,false,false,false⟩:=by kernel_rfl
theorem md69:E1.mode 69=⟨false,false,false,false⟩:=by kernel_rfl
theorem md70:E1.mode 70=⟨false,false,false,false⟩:=by kernel_rfl
theorem md71:E1.mode 71=⟨false,false,false,false⟩:=by kernel_rfl
theorem md72:E1.mode 72=⟨false,false,false,false⟩:=by kernel_rfl
theorem md73:E1.mode 73=⟨false,false,false,false⟩:=by kernel_rfl
theorem md74:E1.mode 74=⟨false,false,false,false⟩:=by kernel_rfl
theorem md75:E1.mode 75=⟨false,false,true,false⟩:=by kernel_rfl
theorem md76:E1.mode 76=⟨false,false,false,false⟩:=by kernel_rfl
theorem md77:E1.mode 77=⟨false,false,false,false⟩:=by kernel_rfl
theorem md78:E1.mode 78=⟨false,false,false,false⟩:=by kernel_rfl
theorem md79:E1.mode 79=⟨false,false,false,false⟩:=by kernel_rfl
theorem md80:E1.mode 80=⟨false,false,false,false⟩:=by kernel_rfl
theorem md81:E1.mode 81=⟨false,false,false,false⟩:=by kernel_rfl
theorem md82:E1.mode 82=⟨false,false,false,false⟩:=by kernel_rfl
theorem md83:E1.mode 83=⟨false,true,true,false⟩:=by kernel_rfl
theorem md84:E1.mode 84=⟨true,false,false,false⟩:=by kernel_rfl
theorem md85:E1.mode 85=⟨true,false,false,false⟩:=by kernel_rfl
theorem md86:E1.mode 86=⟨true,false,false,false⟩:=by kernel_rfl
theorem md87:E1.mode 87=⟨false,false,true,false⟩:=by kernel_rfl
theorem md88:E1.mode 88=⟨true,false,false,false⟩:=by kernel_rfl
theorem md89:E1.mode 89=⟨true,false,false,false⟩:=by kernel_rfl
theorem md90:E1.mode 90=⟨true,false,false,false⟩:=by kernel_rfl
theorem md101:E1.mode 101=⟨true,false,false,false⟩:=by kernel_rfl
theorem md114:E1.mode 114=⟨false,false,false,false⟩:=by kernel_rfl
theorem md115:E1.mode 115=⟨false,false,false,false⟩:=by kernel_rfl
theorem md116:E1.mode 116=⟨false,true,true,false⟩:=by kernel_rfl
theorem md117:E1.mode 117=⟨false,false,false,false⟩:=by kernel_rfl
theorem md118:E1.mode 118=⟨false,false,false,false⟩:=by kernel_rfl
theorem md119:E1.mode 119=⟨false,false,false,false⟩:=by kernel_rfl
theorem md120:E1.mode 120=⟨false,false,false,false⟩:=by kernel_rfl
theorem md121:E1.mode 121=⟨false,false,false,false⟩:=by kernel_rfl
theorem md122:E1.mode 122=⟨true,false,false,false⟩:=by kernel_rfl
theorem md123:E1.mode 123=⟨true,false,false,false⟩:=by kernel_rfl
theorem md124:E1.mode 124=⟨true,false,false,false⟩:=by kernel_rfl
theorem md125:E1.mode 125=⟨false,true,true,false⟩:=by kernel_rfl
theorem md126:E1.mode 126=⟨true,false,false,false⟩:=by kernel_rfl
theorem md127:E1.mode 127=⟨true,false,false,false⟩:=by kernel_rfl
theorem md135:E1.mode 135=⟨true,false,false,false⟩:=by kernel_rfl
theorem md136:E1.mode 136=⟨true,false,false,false⟩:=by kernel_rfl
theorem md137:E1.mode 137=⟨true,false,false,false⟩:=by kernel_rfl
theorem md138:E1.mode 138=⟨true,false,false,false⟩:=by kernel_rfl
theorem md139:E1.mode 139=⟨false,false,false,false⟩:=by kernel_rfl
theorem md146:E1.mode 146=⟨false,false,false,false⟩:=by kernel_rfl
theorem md147:E1.mode 147=⟨true,false,false,false⟩:=by kernel_rfl
theorem md148:E1.mode 148=⟨true,false,false,false⟩:=by kernel_rfl
theorem md149:E1.mode 149=⟨true,false,false,false⟩:=by kernel_rfl
theorem md150:E1.mode 150=⟨false,false,false,false⟩:=by kernel_rfl
theorem md151:E1.mode 151=⟨true,false,false,false⟩:=by kernel_rfl
theorem md179:E1.mode 179=⟨true,false,false,false⟩:=by kernel_rfl
theorem md180:E1.mode 180=⟨true,false,false,false⟩:=by kernel_rfl
theorem md185:E1.mode 185=⟨true,false,false,false⟩:=by kernel_rfl
theorem md186:E1.mode 186=⟨true,false,false,false⟩:=by kernel_rfl
theorem md263:E1.mode 263=⟨true,false,false,false⟩:=by kernel_rfl
attribute [go_sem] md3 md4 md6 md7 md8 md9 md10 md11 md12 md13 md14 md15 md16 md17 md18 md19 md20 md21 md36 md38 md39 md40 md41 md42 md43 md44 md45 md46 md47 md48 md49 md50 md51 md52 md53 md54 md55 md69 md70 md71 md72 md73 md74 md75 md76 md77 md78 md79 md80 md81 md82 md83 md84 md85 md86 md87 md88 md89 md90 md101 md114 md115 md116 md117 md118 md119 md120 md121 md122 md123 md124 md125 md126 md127 md135 md136 md137 md138 md139 md146 md147 md148 md149 md150 md151 md179 md180 md185 md186 md263
end Go.Ab.X
end
