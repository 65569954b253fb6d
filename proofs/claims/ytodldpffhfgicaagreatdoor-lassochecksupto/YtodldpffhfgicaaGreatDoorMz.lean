/- A part. -/
import Derived.Test.YtodldpffhfgicaaGreatDoorM0
import Derived.Test.YtodldpffhfgicaaGreatDoorM1
import Derived.Test.YtodldpffhfgicaaGreatDoorM2
import Derived.Test.YtodldpffhfgicaaGreatDoorM3
import Derived.Test.YtodldpffhfgicaaGreatDoorM4
import Derived.Test.YtodldpffhfgicaaGreatDoorM5
import Derived.Test.YtodldpffhfgicaaGreatDoorM6
import Derived.Test.YtodldpffhfgicaaGreatDoorM7
import Derived.Test.YtodldpffhfgicaaGreatDoorM8
import Derived.Test.YtodldpffhfgicaaGreatDoorM9
import Derived.Test.YtodldpffhfgicaaGreatDoorM10
set_option linter.all false
noncomputable section
namespace Go.Ab.X
open Go Go.Ab Go.Proofs
set_option maxRecDepth 100000
theorem fc {E:Env}{f:Nat}{a:List AV}{v:AV}{r:List (Nat×List AV×AV)}{n:Nat}(h:zAG E n f a v=true)(hr:∀e∈r,∃n,zAG E n e.1 e.2.1 e.2.2=true):∀e∈((f,a,v) :: r),∃n,zAG E n e.1 e.2.1 e.2.2=true:=by
 intro e he
 cases he with
 | head=>exact⟨n,h⟩
 | tail _ he=>exact hr e he
theorem fz {E:Env}:∀e∈([]:List (Nat×List AV×AV)),∃n,zAG E n e.1 e.2.1 e.2.2=true:=fun e he=>by cases he
theorem okM0:TysOk M0 Tryz.prog∧FuncsOk M0 Tryz.prog (OkC M0 Tryz.prog):=ok
theorem okM1:TysOk M1 Tryz.prog∧FuncsOk M1 Tryz.prog (OkC M1 Tryz.prog):=zJV okM0.1 okM0.2 mixed (tab:=tab0) (fc m0 (fc m1 (fc m2 (fc m3 (fc m4 (fc m5 (fc m6 (fc m8 (fc m12 (fc m14 (fc m16 (fc m18 (fc m23 (fc m24 (fc m27 (fc m28 (fc m30 (fc m33 (fc m35 (fc m38 (fc m41 (fc m43 (fc m47 (fc m49 (fc m50 (fc m51 (fc m52 (fc m54 (fc m56 (fc m59 (fc m65 (fc m71 (fc m73 (fc m76 (fc m83 (fc m84 (fc m86 (fc m87 (fc m89 (fc m90 (fc m92 (fc m93 (fc m116 (fc m118 (fc m119 (fc m120 (fc m121 (fc m123 (fc m124 (fc m125 (fc m126 (fc m127 fz))))))))))))))))))))))))))))))))))))))))))))))))))))
theorem okM2:TysOk M2 Tryz.prog∧FuncsOk M2 Tryz.prog (OkC M2 Tryz.prog):=zJV okM1.1 okM1.2 mixed (tab:=tab1) (fc m7 (fc m10 (fc m46 (fc m53 (fc m80 (fc m82 (fc m95 (fc m104 (fc m106 (fc m108 (fc m111 (fc m117 (fc m122 (fc m128 fz))))))))))))))
theorem okM3:TysOk M3 Tryz.prog∧FuncsOk M3 Tryz.prog (OkC M3 Tryz.prog):=zJV okM2.1 okM2.2 mixed (tab:=tab2) (fc m9 (fc m11 (fc m13 (fc m15 (fc m17 (fc m19 (fc m21 (fc m25 (fc m26 (fc m29 (fc m31 (fc m32 (fc m34 (fc m36 (fc m37 (fc m39 (fc m42 (fc m44 (fc m48 (fc m55 (fc m57 (fc m58 (fc m60 (fc m61 (fc m62 (fc m63 (fc m64 (fc m66 (fc m67 (fc m68 (fc m69 (fc m70 (fc m72 (fc m74 (fc m75 (fc m77 (fc m81 (fc m85 (fc m88 (fc m91 (fc m94 (fc m96 (fc m102 (fc m105 (fc m107 (fc m109 (fc m112 (fc m113 (fc m114 (fc m129 (fc m130 fz)))))))))))))))))))))))))))))))))))))))))))))))))))
theorem okM4:TysOk M4 Tryz.prog∧FuncsOk M4 Tryz.prog (OkC M4 Tryz.prog):=zJV okM3.1 okM3.2 mixed (tab:=tab3) (fc m20 (fc m22 (fc m40 (fc m45 (fc m78 (fc m79 (fc m97 (fc m98 (fc m99 (fc m100 (fc m110 (fc m115 (fc m131 fz)))))))))))))
theorem okM5:TysOk M5 Tryz.prog∧FuncsOk M5 Tryz.prog (OkC M5 Tryz.prog):=zJV okM4.1 okM4.2 mixed (tab:=tab4) (fc m101 (fc m103 fz))
end Go.Ab.X
end
