/- A part. -/
import Derived.Test.YtfjmlhpdcaeabaaGreatDoorM0
import Derived.Test.YtfjmlhpdcaeabaaGreatDoorM1
import Derived.Test.YtfjmlhpdcaeabaaGreatDoorM2
import Derived.Test.YtfjmlhpdcaeabaaGreatDoorM3
import Derived.Test.YtfjmlhpdcaeabaaGreatDoorM4
import Derived.Test.YtfjmlhpdcaeabaaGreatDoorM5
import Derived.Test.YtfjmlhpdcaeabaaGreatDoorM6
import Derived.Test.YtfjmlhpdcaeabaaGreatDoorM7
import Derived.Test.YtfjmlhpdcaeabaaGreatDoorM8
import Derived.Test.YtfjmlhpdcaeabaaGreatDoorM9
import Derived.Test.YtfjmlhpdcaeabaaGreatDoorM10
set_option linter.all false
noncomputable section
namespace Go.Ab.X
open Go Go.Ab Go.Proofs
set_option maxRecDepth 100000
theorem fc {E:Env}{f:Nat}{a:List AV}{v:AV}{r:List (Nat×List AV×AV)}{n:Nat}(h:zAN E n f a v=true)(hr:∀e∈r,∃n,zAN E n e.1 e.2.1 e.2.2=true):∀e∈((f,a,v) :: r),∃n,zAN E n e.1 e.2.1 e.2.2=true:=by
 intro e he
 cases he with
 | head=>exact⟨n,h⟩
 | tail _ he=>exact hr e he
theorem fz {E:Env}:∀e∈([]:List (Nat×List AV×AV)),∃n,zAN E n e.1 e.2.1 e.2.2=true:=fun e he=>by cases he
theorem okM0:TysOk M0 Tryz.prog∧FuncsOk M0 Tryz.prog (OkC M0 Tryz.prog):=ok
theorem okM1:TysOk M1 Tryz.prog∧FuncsOk M1 Tryz.prog (OkC M1 Tryz.prog):=zLB okM0.1 okM0.2 mixed (tab:=tab0) (fc m0 (fc m1 (fc m2 (fc m3 (fc m4 (fc m5 (fc m6 (fc m7 (fc m9 (fc m10 (fc m11 (fc m12 (fc m14 (fc m15 (fc m18 (fc m19 (fc m20 (fc m21 (fc m22 (fc m24 (fc m27 (fc m28 (fc m29 (fc m30 (fc m31 (fc m34 (fc m36 (fc m38 (fc m40 (fc m43 (fc m46 (fc m49 (fc m55 (fc m57 (fc m61 (fc m62 (fc m66 (fc m67 (fc m69 (fc m70 (fc m71 (fc m72 (fc m73 (fc m77 (fc m78 (fc m81 (fc m83 (fc m84 (fc m85 (fc m86 (fc m87 (fc m89 (fc m94 (fc m96 (fc m97 (fc m98 (fc m99 (fc m100 (fc m101 (fc m102 (fc m103 (fc m104 (fc m106 (fc m107 (fc m108 (fc m109 (fc m110 (fc m111 (fc m112 (fc m113 (fc m114 (fc m115 (fc m116 (fc m123 fz))))))))))))))))))))))))))))))))))))))))))))))))))))))))))))))))))))))))))
theorem okM2:TysOk M2 Tryz.prog∧FuncsOk M2 Tryz.prog (OkC M2 Tryz.prog):=zLB okM1.1 okM1.2 mixed (tab:=tab1) (fc m8 (fc m13 (fc m16 (fc m25 (fc m41 (fc m44 (fc m47 (fc m50 (fc m52 (fc m54 (fc m58 (fc m60 (fc m63 (fc m64 (fc m74 (fc m75 (fc m80 (fc m82 (fc m90 (fc m91 (fc m92 (fc m95 (fc m105 (fc m119 (fc m121 (fc m122 fz))))))))))))))))))))))))))
theorem okM3:TysOk M3 Tryz.prog∧FuncsOk M3 Tryz.prog (OkC M3 Tryz.prog):=zLB okM2.1 okM2.2 mixed (tab:=tab2) (fc m17 (fc m26 (fc m33 (fc m37 (fc m39 (fc m42 (fc m45 (fc m48 (fc m51 (fc m53 (fc m56 (fc m59 (fc m65 (fc m68 (fc m88 (fc m93 (fc m117 (fc m120 fz))))))))))))))))))
theorem okM4:TysOk M4 Tryz.prog∧FuncsOk M4 Tryz.prog (OkC M4 Tryz.prog):=zLB okM3.1 okM3.2 mixed (tab:=tab3) (fc m23 (fc m32 (fc m35 (fc m76 (fc m79 (fc m118 fz))))))
end Go.Ab.X
end
