/- A part. -/
import Derived.Test.YtfjmlhpdcaeabaaGreatDoorX1
set_option linter.all false
noncomputable section
namespace Go.Ab.X
open Go Go.Ab Go.Proofs
set_option maxRecDepth 100000
theorem tis:tisB E Tryz.prog 425 0=true:=by kernel_rfl
theorem fl0:fnsL E [0,1,2,3,4,5,6,7,8,9,10,11,12,13,14,15,16,17,18,19,20,21,22,23,24,25,26,27,28,29]=true:=by kernel_rfl
theorem fl1:fnsL E [30,31,32,33,34,35,36,37,38,39,40,41,42,43,44,45,46,47,48,49,50,51,52,53,54,55,56,57,58,59]=true:=by kernel_rfl
theorem fl2:fnsL E [60,61,62,63,64,65,66,67,68,69,70,71,72,73,74,75,76,77,78,79,80,81,82,83,84,85,86,87,88,89]=true:=by kernel_rfl
theorem fl3:fnsL E [90,91,92,93,94,95,96,97,98,99,100,101,102,103,104,105,106,107,108,109,110,111,112,113,114,115,116,117,118,119]=true:=by kernel_rfl
theorem fl4:fnsL E [120,121,122,123,124,125,126,127,128,129,130,131,132,133,134,135,136,137,138,139,140,141,142,143,144,145,146,147,148,149]=true:=by kernel_rfl
theorem fl5:fnsL E [150,151,152,153,154,155,156,157,158,159,160,161,162,163,164,165,166,167,168,169,170,171,172,173,174,175,176,177,178,179]=true:=by kernel_rfl
theorem fl6:fnsL E [180,181,182,183,184,185,186,187,188,189,190,191,192,193,194,195,196,197,198,199,200,201,202,203,204,205,206,207,208,209]=true:=by kernel_rfl
theorem fl7:fnsL E [210,211,212,213,214,215,216,217,218,219,220,221,222,223,224,225,226,227,228,229,230,231,232,233,234,235,236,237,238,239]=true:=by kernel_rfl
theorem fl8:fnsL E [240,241,242,243,244,245,246,247,248,249,250,251,252,253,254,255,256,257,258,259,260,261,262,263,264,265,266,267,268,269]=true:=by kernel_rfl
theorem fl9:fnsL E [270,271,272,273,274,275,276,277,278,279,280,281,282,283,284,285,286,287,288,289,290,291,292,293,294,295,296,297,298,299]=true:=by kernel_rfl
theorem fl10:fnsL E [300,301,302,303,304,305,306,307,308,309,310,311,312,313,314,315,316,317,318,319,320,321,322,323,324,325,326,327,328,329]=true:=by kernel_rfl
theorem fl11:fnsL E [330,331,332,333,334,335,336,337,338,339,340,341,342,343,344,345,346,347,348,349,350,351,352,353,354,355,356,357,358,359]=true:=by kernel_rfl
theorem fl12:fnsL E [360,361,362,363,364,365,366,367,368,369,370,371,372,373,374,375,376,377,378,379,380,381,382,383,384,385,386,387,388,389]=true:=by kernel_rfl
theorem fl13:fnsL E [390,391,392,393,394,395,396,397,398,399,400,401,402,403,404,405,406,407,408,409,410,411,412,413,414,415,416,417,418,419]=true:=by kernel_rfl
theorem fl14:fnsL E [420,421,422,423,424,425,426,427,428,429,430,431,432,433,434,435,436,437,438,439,440,441,442,443,444,445,446,447,448,449]=true:=by kernel_rfl
theorem fl15:fnsL E [450,451,452,453,454,455,456,457,458,459,460,461,462,463,464,465,466,467,468,469,470,471,472,473,474,475,476,477,478,479]=true:=by kernel_rfl
theorem fl16:fnsL E [480,481,482,483,484,485,486]=true:=by kernel_rfl
theorem tys:TysOk E Tryz.prog:=tysOk tis fun t ht=>by
 show(types t).ok=false
 unfold types
 have:Nat.blt t 425=false:=by
  cases h:Nat.blt t 425 with
  | false=>rfl
  | true=>exact absurd (Eq.mp Nat.blt_eq h) (Nat.not_lt.2 ht)
 rw[this];rfl
theorem fsEq:List.map (fun i=>E.funcs i) (List.range 487)=maskL 18291495481228852358292758756016518555556640843268986289768613617119535096480149876906168099771787254889712333908214402651214768208670382620664 Tryz.prog.funcs.toList:=by kernel_rfl
theorem fsNone:∀t,487≤t→E.funcs t=none:=fun t ht=>by
 show funcs t=none
 unfold funcs
 have:Nat.blt t 487=false:=by
  cases h:Nat.blt t 487 with
  | false=>rfl
  | true=>exact absurd (Eq.mp Nat.blt_eq h) (Nat.not_lt.2 ht)
 rw[this];rfl
theorem fsNames:allNG Tryz.prog.funcs.toList=true:=by kernel_rfl
theorem mixed:Tryz.prog.follows .mixedOrders=true:=by kernel_rfl
theorem fsCode:∀f:Nat,f<487→∀fn,E.funcs f=some fn→fnB E f fn=true:=by
 intro f hf fn hfn
 by_cases h0:f<30
 ·exact zBI fl0 f (zB1 (a:=0) (n:=30) (by omega) (by omega)) fn hfn
 by_cases h1:f<60
 ·exact zBI fl1 f (zB1 (a:=30) (n:=30) (by omega) (by omega)) fn hfn
 by_cases h2:f<90
 ·exact zBI fl2 f (zB1 (a:=60) (n:=30) (by omega) (by omega)) fn hfn
 by_cases h3:f<120
 ·exact zBI fl3 f (zB1 (a:=90) (n:=30) (by omega) (by omega)) fn hfn
 by_cases h4:f<150
 ·exact zBI fl4 f (zB1 (a:=120) (n:=30) (by omega) (by omega)) fn hfn
 by_cases h5:f<180
 ·exact zBI fl5 f (zB1 (a:=150) (n:=30) (by omega) (by omega)) fn hfn
 by_cases h6:f<210
 ·exact zBI fl6 f (zB1 (a:=180) (n:=30) (by omega) (by omega)) fn hfn
 by_cases h7:f<240
 ·exact zBI fl7 f (zB1 (a:=210) (n:=30) (by omega) (by omega)) fn hfn
 by_cases h8:f<270
 ·exact zBI fl8 f (zB1 (a:=240) (n:=30) (by omega) (by omega)) fn hfn
 by_cases h9:f<300
 ·exact zBI fl9 f (zB1 (a:=270) (n:=30) (by omega) (by omega)) fn hfn
 by_cases h10:f<330
 ·exact zBI fl10 f (zB1 (a:=300) (n:=30) (by omega) (by omega)) fn hfn
 by_cases h11:f<360
 ·exact zBI fl11 f (zB1 (a:=330) (n:=30) (by omega) (by omega)) fn hfn
 by_cases h12:f<390
 ·exact zBI fl12 f (zB1 (a:=360) (n:=30) (by omega) (by omega)) fn hfn
 by_cases h13:f<420
 ·exact zBI fl13 f (zB1 (a:=390) (n:=30) (by omega) (by omega)) fn hfn
 by_cases h14:f<450
 ·exact zBI fl14 f (zB1 (a:=420) (n:=30) (by omega) (by omega)) fn hfn
 by_cases h15:f<480
 ·exact zBI fl15 f (zB1 (a:=450) (n:=30) (by omega) (by omega)) fn hfn
 by_cases h16:f<487
 ·exact zBI fl16 f (zB1 (a:=480) (n:=7) (by omega) (by omega)) fn hfn
 omega
def E0:Env:=E.wi fun _ _=>none
theorem base0:FuncsOk E0 Tryz.prog (OkC E0 Tryz.prog):=funcsOk (n:=487) fsEq fsNone fsNames (fun f hf fn hfn=>by show fnB (E.wi _) f fn=true;rw[fnB_wi];exact fsCode f hf fn hfn) (fun h=>by cases h)
theorem tysOk0:TysOk E0 Tryz.prog:=tys_wi tys
theorem clone166 {args:List AV}{v:AV}(h:zFT args=some v){base:Nat}{w0:World}{g:Gh}{s:Sto}{w:World}{args':Array Value}(hok:g.ok=OkC E0 Tryz.prog)(hr:Rel base w0 g s w)(ha:VRs g args args') :
  zD1 Tryz.prog base w0 g s w 166 args' (.ret v) s:=
 zNI (E:=E0) (fn:=Tryz.f166) (T:=27) (el:=3) tysOk0 (fun h1 h2=>base0.fn h1 h2) (sim tysOk0 base0 mixed 20) (by kernel_rfl) rfl rfl ⟨rfl,rfl,rfl⟩ ⟨rfl,rfl,rfl⟩ ⟨rfl,rfl,rfl⟩ (by kernel_rfl) (by kernel_rfl) (by kernel_rfl) h hok hr ha
theorem clone234 {args:List AV}{v:AV}(h:zFT args=some v){base:Nat}{w0:World}{g:Gh}{s:Sto}{w:World}{args':Array Value}(hok:g.ok=OkC E0 Tryz.prog)(hr:Rel base w0 g s w)(ha:VRs g args args') :
  zD1 Tryz.prog base w0 g s w 234 args' (.ret v) s:=
 zNI (E:=E0) (fn:=Tryz.f234) (T:=30) (el:=32) tysOk0 (fun h1 h2=>base0.fn h1 h2) (sim tysOk0 base0 mixed 20) (by kernel_rfl) rfl rfl ⟨rfl,rfl,rfl⟩ ⟨rfl,rfl,rfl⟩ ⟨rfl,rfl,rfl⟩ (by kernel_rfl) (by kernel_rfl) (by kernel_rfl) h hok hr ha
theorem ok:TysOk E Tryz.prog∧FuncsOk E Tryz.prog (OkC E Tryz.prog):=by
 refine wi_ok (E:=E0) (i:=intr) tysOk0 base0 ?_
 intro f args v hv base w0 g s w args' hok hr ha ht
 unfold intr at hv
 simp only[cond_eq_ite] at hv
 split at hv
 ·rename_i hf
  have:=Nat.eq_of_beq_eq_true hf
  subst this
  exact id_norm (fn:=Tryz.f437) (by kernel_rfl) (by kernel_rfl) (by kernel_rfl) (by kernel_rfl) (by kernel_rfl) hv hr ha ht
 split at hv
 ·rename_i hf
  have:=Nat.eq_of_beq_eq_true hf
  subst this
  exact cmp_norm (fn:=Tryz.f363) (by kernel_rfl) (by kernel_rfl) (by kernel_rfl) (by kernel_rfl) (by kernel_rfl) hv hr ha ht
 split at hv
 ·rename_i hf
  have:=Nat.eq_of_beq_eq_true hf
  subst this
  exact clone166 hv hok hr ha
 split at hv
 ·rename_i hf
  have:=Nat.eq_of_beq_eq_true hf
  subst this
  exact clone234 hv hok hr ha
 cases hv
theorem run (n:Nat):ExecSim Tryz.prog (OkC E Tryz.prog) (iter E n)∧CallSim Tryz.prog (OkC E Tryz.prog) (iter E n):=sim ok.1 ok.2 mixed n
end Go.Ab.X
namespace Go.Ab.X
open Go Go.Ab Go.Proofs
def d0:AV:=(.sl 0 [(.str [97]),(.str [98])] .shut)
def d1:AV:=(.agg [(.int .i64 (.ofNat 1)),(.int .i64 (.ofNat 0)),(.sl 0 [] .shut),(.int .i64 (.ofNat 2)),(.int .i64 (.ofNat 0)),(.bool false),(.sl 0 [] .shut),(.str []),(.sl 0 [] .shut),(.sl 0 [] .shut),(.sl 0 [] .shut)])
def d2:AV:=(.agg [(.int .i64 (.ofNat 1)),(.int .i64 (.ofNat 0)),(.sl 0 [] .shut),(.int .i64 (.ofNat 2)),(.int .i64 (.ofNat 0)),(.bool false),(.sl 0 [(.int .i64 (.ofNat 2))] .shut),(.str []),(.sl 0 [] .shut),(.sl 0 [] .shut),(.sl 0 [] .shut)])
def d3:AV:=(.agg [(.str [120]),(.int .i64 (.ofNat 46)),(.int .i64 (.ofNat 10)),(.sl 0 [] .shut),(.int .i64 (.ofNat 0)),(.int .i64 (.ofNat 0)),(.bool false),(.sl 0 [] .shut),(.str []),(.sl 0 [] .shut),(.sl 0 [] .shut),(.sl 0 [d1,d2] .shut)])
def d4:AV:=(.agg [(.int .i64 (.ofNat 1)),(.int .i64 (.ofNat 0)),(.sl 0 [] .shut),(.int .i64 (.ofNat 4)),(.int .i64 (.ofNat 0)),(.bool false),(.sl 0 [] .shut),(.str [97]),(.sl 0 [] .shut),(.sl 0 [] .shut),(.sl 0 [] .shut)])
def d5:AV:=(.agg [(.int .i64 (.ofNat 1)),(.int .i64 (.ofNat 0)),(.sl 0 [] .shut),(.int .i64 (.ofNat 4)),(.int .i64 (.ofNat 0)),(.bool false),(.sl 0 [] .shut),(.str [98]),(.sl 0 [] .shut),(.sl 0 [] .shut),(.sl 0 [] .shut)])
def d6:AV:=(.agg [(.str [121]),(.int .i64 (.ofNat 22)),(.int .i64 (.ofNat 0)),(.sl 0 [] .shut),(.int .i64 (.ofNat 0)),(.int .i64 (.ofNat 0)),(.bool false),(.sl 0 [] .shut),(.str []),(.sl 0 [] .shut),(.sl 0 [] .shut),(.sl 0 [d4,d5] .shut)])
def d7:AV:=(.agg [(.int .i64 (.ofNat 2)),(.int .i64 (.ofNat 0)),(.sl 0 [] .shut),(.int .i64 (.ofNat 0)),(.int .i64 (.ofNat 0)),(.bool false),(.sl 0 [] .shut),(.str []),(.sl 0 [] .shut),(.sl 0 [] .shut),(.sl 0 [] .shut)])
def d8:AV:=(.agg [(.int .i64 (.ofNat 19)),(.int .i64 (.ofNat 0)),(.sl 0 [] .shut),(.int .i64 (.ofNat 0)),(.int .i64 (.ofNat 0)),(.bool false),(.sl 0 [] .shut),(.str []),(.sl 0 [] .shut),(.sl 0 [] .shut),(.sl 0 [d7,d1] .shut)])
def d9:AV:=(.agg [(.int .i64 (.ofNat 2)),(.int .i64 (.ofNat 1)),(.sl 0 [] .shut),(.int .i64 (.ofNat 0)),(.int .i64 (.ofNat 0)),(.bool false),(.sl 0 [] .shut),(.str []),(.sl 0 [] .shut),(.sl 0 [] .shut),(.sl 0 [] .shut)])
def d10:AV:=(.agg [(.int .i64 (.ofNat 19)),(.int .i64 (.ofNat 0)),(.sl 0 [] .shut),(.int .i64 (.ofNat 0)),(.int .i64 (.ofNat 0)),(.bool false),(.sl 0 [] .shut),(.str []),(.sl 0 [] .shut),(.sl 0 [] .shut),(.sl 0 [d9,d4] .shut)])
def d11:AV:=(.agg [(.int .i64 (.ofNat 46)),(.int .i64 (.ofNat 8)),(.sl 0 [] .shut),(.int .i64 (.ofNat 0)),(.int .i64 (.ofNat 0)),(.bool false),(.sl 0 [] .shut),(.str []),(.sl 0 [] .shut),(.sl 0 [] .shut),(.sl 0 [d7,d2] .shut)])
def d12:AV:=(.agg [(.int .i64 (.ofNat 5)),(.int .i64 (.ofNat 0)),(.sl 0 [] .shut),(.int .i64 (.ofNat 0)),(.int .i64 (.ofNat 0)),(.bool false),(.sl 0 [] .shut),(.str []),(.sl 0 [] .shut),(.sl 0 [] .shut),(.sl 0 [d7] .shut)])
def d13:AV:=(.agg [(.int .i64 (.ofNat 1)),(.int .i64 (.ofNat 0)),(.sl 0 [] .shut),(.int .i64 (.ofNat 2)),(.int .i64 (.ofNat 0)),(.bool false),(.sl 0 [(.int .i64 (.ofNat 1))] .shut),(.str []),(.sl 0 [] .shut),(.sl 0 [] .shut),(.sl 0 [] .shut)])
def d14:AV:=(.agg [(.int .i64 (.ofNat 46)),(.int .i64 (.ofNat 1)),(.sl 0 [] .shut),(.int .i64 (.ofNat 0)),(.int .i64 (.ofNat 0)),(.bool false),(.sl 0 [] .shut),(.str []),(.sl 0 [] .shut),(.sl 0 [] .shut),(.sl 0 [d7,d13] .shut)])
def d15:AV:=(.agg [(.int .i64 (.ofNat 19)),(.int .i64 (.ofNat 0)),(.sl 0 [] .shut),(.int .i64 (.ofNat 0)),(.int .i64 (.ofNat 0)),(.bool false),(.sl 0 [] .shut),(.str []),(.sl 0 [] .shut),(.sl 0 [] .shut),(.sl 0 [d12,d14] .shut)])
def d16:AV:=(.agg [(.int .i64 (.ofNat 5)),(.int .i64 (.ofNat 0)),(.sl 0 [] .shut),(.int .i64 (.ofNat 0)),(.int .i64 (.ofNat 0)),(.bool false),(.sl 0 [] .shut),(.str []),(.sl 0 [] .shut),(.sl 0 [] .shut),(.sl 0 [d9] .shut)])
def d17:AV:=(.agg [(.int .i64 (.ofNat 19)),(.int .i64 (.ofNat 0)),(.sl 0 [] .shut),(.int .i64 (.ofNat 0)),(.int .i64 (.ofNat 0)),(.bool false),(.sl 0 [] .shut),(.str []),(.sl 0 [] .shut),(.sl 0 [] .shut),(.sl 0 [d16,d9] .shut)])
def d18:AV:=(.agg [d0,(.sl 0 [] .shut),(.sl 0 [d3,d6] .shut),(.sl 0 [] .shut),(.sl 0 [] .shut),(.int .i64 (.ofNat 11)),(.int .i64 (.ofNat 0)),(.sl 0 [] .shut),(.int .i64 (.ofNat 0)),(.int .i64 (.ofNat 0)),(.bool false),(.sl 0 [] .shut),(.str []),(.sl 0 [] .shut),(.sl 0 [] .shut),(.sl 0 [d8,d10] .shut),(.int .i64 (.ofNat 11)),(.int .i64 (.ofNat 0)),(.sl 0 [] .shut),(.int .i64 (.ofNat 0)),(.int .i64 (.ofNat 0)),(.bool false),(.sl 0 [] .shut),(.str []),(.sl 0 [] .shut),(.sl 0 [] .shut),(.sl 0 [d11,d15,d17] .shut),(.sl 0 [] .shut),(.sl 0 [] .shut),(.sl 0 [] .shut),(.sl 0 [] .shut),(.sl 0 [] .shut),(.sl 0 [] .shut),(.sl 0 [] .shut),(.bool false)])
def d19:AV:=(.agg [(.int .i64 (.ofNat 4)),(.int .i64 (.ofNat 0)),(.bool false),(.sl 0 [] .shut),(.str [97]),(.sl 0 [] .shut),(.sl 0 [] .shut)])
def d20:AV:=(.agg [(.int .i64 (.ofNat 4)),(.int .i64 (.ofNat 0)),(.bool false),(.sl 0 [] .shut),(.str [98]),(.sl 0 [] .shut),(.sl 0 [] .shut)])
def d21:AV:=(.agg [(.int .i64 (.ofNat 4)),(.int .i64 (.ofNat 0)),(.bool false),(.sl 0 [] .shut),(.str [120]),(.sl 0 [] .shut),(.sl 0 [] .shut)])
def d22:AV:=(.agg [(.int .i64 (.ofNat 4)),(.int .i64 (.ofNat 0)),(.bool false),(.sl 0 [] .shut),(.str [121]),(.sl 0 [] .shut),(.sl 0 [] .shut)])
def d23:AV:=(.agg [(.int .i64 (.ofNat 2)),(.int .i64 (.ofNat 0)),(.bool false),(.sl 0 [] .shut),(.str []),(.sl 0 [] .shut),(.sl 0 [] .shut)])
def d24:AV:=(.agg [(.int .i64 (.ofNat 2)),(.int .i64 (.ofNat 0)),(.bool false),(.sl 0 [(.int .i64 (.ofNat 2))] .shut),(.str []),(.sl 0 [] .shut),(.sl 0 [] .shut)])
def d25:AV:=(.agg [(.int .i64 (.ofNat 2)),(.int .i64 (.ofNat 0)),(.bool false),(.sl 0 [(.int .i64 (.ofNat 1))] .shut),(.str []),(.sl 0 [] .shut),(.sl 0 [] .shut)])
def d26:AV:=(.tuple [(.int .i64 (.ofNat 2)),.niliface])
def d27:AV:=(.agg [(.int .i64 (.ofNat 5)),(.int .i64 (.ofNat 0)),(.bool false),(.sl 0 [] .shut),(.str []),(.sl 0 [d23,d25,d24] .shut),(.sl 0 [] .shut)])
def d28:AV:=(.tuple [(.int .i64 (.ofNat 4)),(.int .i64 (.ofNat 2))])
def d29:AV:=(.agg [(.bool false),(.sl 0 [] .shut)])
def d30:AV:=(.agg [(.bool false),(.sl 0 [(.int .i64 (.ofNat 2))] .shut)])
def d31:AV:=(.agg [(.int .i64 (.ofNat 5)),(.int .i64 (.ofNat 0)),(.bool false),(.sl 0 [] .shut),(.str []),(.sl 0 [d19,d20] .shut),(.sl 0 [] .shut)])
def d32:AV:=(.tuple [(.int .i64 (.ofNat 3)),(.int .i64 (.ofNat 2))])
def d33:AV:=(.sl 0 [(.sl 0 [d23,d19] .shut),(.sl 0 [d23,d20] .shut),(.sl 0 [d25,d19] .shut),(.sl 0 [d25,d20] .shut),(.sl 0 [d24,d19] .shut),(.sl 0 [d24,d20] .shut)] .shut)
def d34:AV:=(.tuple [d33,(.int .i64 (.ofNat 0)),(.int .i64 (.ofNat 0))])
def d35:AV:=(.sl 0 [(.sl 0 [d23,d19] .shut)] .shut)
def d36:AV:=(.tuple [d35,(.int .i64 (.ofNat 0)),(.int .i64 (.ofNat 0))])
def d37:AV:=(.tuple [(.bool true),(.int .i64 (.ofNat 0))])
def d38:AV:=(.agg [(.bool false),(.sl 0 [(.int .i64 (.ofNat 1))] .shut)])
def d39:AV:=(.agg [(.int .i64 (.ofNat 1)),(.int .i64 (.ofNat 1)),(.bool false),(.sl 0 [] .shut),(.str []),(.sl 0 [] .shut),(.sl 0 [] .shut)])
def d40:AV:=(.sl 0 [(.sl 0 [d24,d20] .shut)] .shut)
def d41:AV:=(.tuple [d40,(.int .i64 (.ofNat 0)),(.int .i64 (.ofNat 0))])
def d42:AV:=(.agg [(.int .i64 (.ofNat 1)),(.int .i64 (.ofNat 0)),(.bool false),(.sl 0 [] .shut),(.str []),(.sl 0 [] .shut),(.sl 0 [] .shut)])
def d43:AV:=(.tuple [(.sl 0 [] .shut),(.int .i64 (.ofNat 0)),(.int .i64 (.ofNat 0))])
def d44:AV:=(.agg [(.sl 0 [d23,d19] .shut),(.sl 0 [d25,d19] .shut),(.bool true),(.bool true),(.sl 0 [] .shut)])
def d45:AV:=(.tuple [d25,(.int .i64 (.ofNat 0)),(.int .i64 (.ofNat 0))])
def d46:AV:=(.agg [(.sl 0 [d23,d19] .shut),(.sl 0 [] .shut),(.bool true),(.bool false),(.sl 0 [] .shut)])
def d47:AV:=(.agg [(.int .i64 (.ofNat 0)),(.int .i64 (.ofNat 0)),(.bool false),(.sl 0 [] .shut),(.str []),(.sl 0 [] .shut),(.sl 0 [] .shut)])
def d48:AV:=(.tuple [d47,(.int .i64 (.ofNat 8)),(.int .i64 (.ofNat 0))])
def d49:AV:=(.agg [(.int .i64 (.ofNat 19)),(.int .i64 (.ofNat 0)),(.sl 0 [] .shut),(.int .i64 (.ofNat 0)),(.int .i64 (.ofNat 0)),(.bool false),(.sl 0 [] .shut),(.str []),(.sl 0 [] .shut),(.sl 0 [] .shut),(.sl 0 [d13,d4] .shut)])
def d50:AV:=(.agg [(.sl 0 [] .shut),(.sl 0 [] .shut),(.bool false),(.bool false),(.sl 0 [] .shut)])
def d51:AV:=(.tuple [d42,(.int .i64 (.ofNat 0)),(.int .i64 (.ofNat 0))])
def d52:AV:=(.agg [(.int .i64 (.ofNat 46)),(.int .i64 (.ofNat 1)),(.sl 0 [] .shut),(.int .i64 (.ofNat 0)),(.int .i64 (.ofNat 0)),(.bool false),(.sl 0 [] .shut),(.str []),(.sl 0 [] .shut),(.sl 0 [] .shut),(.sl 0 [d13,d4] .shut)])
def d53:AV:=(.tuple [d47,(.int .i64 (.ofNat 1)),(.int .i64 (.ofNat 0))])
def d54:AV:=(.agg [(.int .i64 (.ofNat 1)),(.int .i64 (.ofNat 0)),(.sl 0 [] .shut),(.int .i64 (.ofNat 1)),(.int .i64 (.ofNat 1)),(.bool false),(.sl 0 [] .shut),(.str []),(.sl 0 [] .shut),(.sl 0 [] .shut),(.sl 0 [] .shut)])
def d55:AV:=(.agg [(.int .i64 (.ofNat 11)),(.int .i64 (.ofNat 0)),(.sl 0 [] .shut),(.int .i64 (.ofNat 0)),(.int .i64 (.ofNat 0)),(.bool false),(.sl 0 [] .shut),(.str []),(.sl 0 [] .shut),(.sl 0 [] .shut),(.sl 0 [d4,d54] .shut)])
def d56:AV:=(.agg [(.int .i64 (.ofNat 1)),(.int .i64 (.ofNat 0)),(.sl 0 [] .shut),(.int .i64 (.ofNat 1)),(.int .i64 (.ofNat 0)),(.bool false),(.sl 0 [] .shut),(.str []),(.sl 0 [] .shut),(.sl 0 [] .shut),(.sl 0 [] .shut)])
def d57:AV:=(.agg [(.int .i64 (.ofNat 11)),(.int .i64 (.ofNat 0)),(.sl 0 [] .shut),(.int .i64 (.ofNat 0)),(.int .i64 (.ofNat 0)),(.bool false),(.sl 0 [] .shut),(.str []),(.sl 0 [] .shut),(.sl 0 [] .shut),(.sl 0 [d56,d4] .shut)])
def d58:AV:=(.agg [(.int .i64 (.ofNat 46)),(.int .i64 (.ofNat 10)),(.sl 0 [] .shut),(.int .i64 (.ofNat 0)),(.int .i64 (.ofNat 0)),(.bool false),(.sl 0 [] .shut),(.str []),(.sl 0 [] .shut),(.sl 0 [] .shut),(.sl 0 [d1,d2] .shut)])
def d59:AV:=(.agg [(.int .i64 (.ofNat 4)),(.int .i64 (.ofNat 0)),(.sl 0 [] .shut),(.int .i64 (.ofNat 0)),(.int .i64 (.ofNat 0)),(.bool false),(.sl 0 [] .shut),(.str []),(.sl 0 [] .shut),(.sl 0 [] .shut),(.sl 0 [] .shut)])
def d60:AV:=(.agg [(.int .i64 (.ofNat 46)),(.int .i64 (.ofNat 8)),(.sl 0 [] .shut),(.int .i64 (.ofNat 0)),(.int .i64 (.ofNat 0)),(.bool false),(.sl 0 [] .shut),(.str []),(.sl 0 [] .shut),(.sl 0 [] .shut),(.sl 0 [d1,d59] .shut)])
def d61:AV:=(.agg [(.int .i64 (.ofNat 18)),(.int .i64 (.ofNat 0)),(.sl 0 [] .shut),(.int .i64 (.ofNat 0)),(.int .i64 (.ofNat 0)),(.bool false),(.sl 0 [] .shut),(.str []),(.sl 0 [] .shut),(.sl 0 [] .shut),(.sl 0 [d58,d60] .shut)])
def d62:AV:=(.agg [(.int .i64 (.ofNat 22)),(.int .i64 (.ofNat 0)),(.sl 0 [] .shut),(.int .i64 (.ofNat 0)),(.int .i64 (.ofNat 0)),(.bool false),(.sl 0 [] .shut),(.str []),(.sl 0 [] .shut),(.sl 0 [] .shut),(.sl 0 [] .shut)])
def d63:AV:=(.agg [(.int .i64 (.ofNat 18)),(.int .i64 (.ofNat 0)),(.sl 0 [] .shut),(.int .i64 (.ofNat 0)),(.int .i64 (.ofNat 0)),(.bool false),(.sl 0 [] .shut),(.str []),(.sl 0 [] .shut),(.sl 0 [] .shut),(.sl 0 [d62,d54] .shut)])
def d64:AV:=(.agg [(.int .i64 (.ofNat 5)),(.int .i64 (.ofNat 0)),(.bool false),(.sl 0 [] .shut),(.str []),(.sl 0 [] .shut),(.sl 0 [] .shut)])
def d65:AV:=(.tuple [d47,(.int .i64 (.ofNat 3)),(.int .i64 (.ofNat 0))])
def d66:AV:=(.agg [(.int .i64 (.ofNat 2)),(.int .i64 (.ofNat 0)),(.bool true),(.sl 0 [(.int .i64 (.ofNat 1))] .shut),(.str []),(.sl 0 [] .shut),(.sl 0 [] .shut)])
def d67:AV:=(.agg [(.int .i64 (.ofNat 1)),(.int .i64 (.ofNat 0)),(.sl 0 [] .shut),(.int .i64 (.ofNat 2)),(.int .i64 (.ofNat 0)),(.bool true),(.sl 0 [(.int .i64 (.ofNat 1))] .shut),(.str []),(.sl 0 [] .shut),(.sl 0 [] .shut),(.sl 0 [] .shut)])
def d68:AV:=(.agg [(.int .i64 (.ofNat 47)),(.int .i64 (.ofNat 2)),(.sl 0 [] .shut),(.int .i64 (.ofNat 0)),(.int .i64 (.ofNat 0)),(.bool false),(.sl 0 [] .shut),(.str []),(.sl 0 [] .shut),(.sl 0 [] .shut),(.sl 0 [] .shut)])
def d69:AV:=(.agg [(.int .i64 (.ofNat 20)),(.int .i64 (.ofNat 0)),(.sl 0 [] .shut),(.int .i64 (.ofNat 0)),(.int .i64 (.ofNat 0)),(.bool false),(.sl 0 [] .shut),(.str []),(.sl 0 [] .shut),(.sl 0 [] .shut),(.sl 0 [d67,d68] .shut)])
def d70:AV:=(.agg [(.int .i64 (.ofNat 38)),(.int .i64 (.ofNat 0)),(.sl 0 [] .shut),(.int .i64 (.ofNat 0)),(.int .i64 (.ofNat 0)),(.bool false),(.sl 0 [] .shut),(.str []),(.sl 0 [] .shut),(.sl 0 [] .shut),(.sl 0 [d13,d2] .shut)])
def d71:AV:=(.agg [(.int .i64 (.ofNat 47)),(.int .i64 (.ofNat 4)),(.sl 0 [] .shut),(.int .i64 (.ofNat 0)),(.int .i64 (.ofNat 0)),(.bool false),(.sl 0 [] .shut),(.str []),(.sl 0 [] .shut),(.sl 0 [] .shut),(.sl 0 [d68] .shut)])
def d72:AV:=(.agg [(.int .i64 (.ofNat 20)),(.int .i64 (.ofNat 0)),(.sl 0 [] .shut),(.int .i64 (.ofNat 0)),(.int .i64 (.ofNat 0)),(.bool false),(.sl 0 [] .shut),(.str []),(.sl 0 [] .shut),(.sl 0 [] .shut),(.sl 0 [d70,d71] .shut)])
def d73:AV:=(.agg [(.int .i64 (.ofNat 6)),(.int .i64 (.ofNat 0)),(.bool false),(.sl 0 [] .shut),(.str []),(.sl 0 [d25,d24] .shut),(.sl 0 [d25,d24] .shut)])
def d74:AV:=(.tuple [(.int .i64 (.ofNat 5)),(.int .i64 (.ofNat 2))])
def d75:AV:=(.tuple [d39,(.int .i64 (.ofNat 0)),(.int .i64 (.ofNat 0))])
def d76:AV:=(.tuple [d47,(.int .i64 (.ofNat 7)),(.int .i64 (.ofNat 0))])
def d77:AV:=(.agg [(.int .i64 (.ofNat 2)),(.int .i64 (.ofNat 0)),(.bool false),(.sl 0 [(.int .i64 (.ofNat 4))] .shut),(.str []),(.sl 0 [] .shut),(.sl 0 [] .shut)])
def d78:AV:=(.tuple [(.int .i64 (.ofNat 0)),(.bool true)])
def d79:AV:=(.agg [(.int .i64 (.ofNat 6)),(.int .i64 (.ofNat 0)),(.bool false),(.sl 0 [] .shut),(.str []),(.sl 0 [d25,d24] .shut),(.sl 0 [d25,d77] .shut)])
def d80:AV:=(.agg [(.int .i64 (.ofNat 11)),(.int .i64 (.ofNat 0)),(.sl 0 [] .shut),(.int .i64 (.ofNat 0)),(.int .i64 (.ofNat 0)),(.bool false),(.sl 0 [] .shut),(.str []),(.sl 0 [] .shut),(.sl 0 [] .shut),(.sl 0 [d11,d15,d17] .shut)])
def d81:AV:=(.agg [(.int .i64 (.ofNat 43)),(.int .i64 (.ofNat 0)),(.sl 0 [] .shut),(.int .i64 (.ofNat 0)),(.int .i64 (.ofNat 0)),(.bool false),(.sl 0 [] .shut),(.str []),(.sl 0 [] .shut),(.sl 0 [] .shut),(.sl 0 [d80] .shut)])
def d82:AV:=(.agg [(.sl 0 [d24,d19] .shut),(.sl 0 [] .shut),(.bool true),(.bool false),(.sl 0 [] .shut)])
def d83:AV:=(.agg [(.sl 0 [d23,d20] .shut),(.sl 0 [] .shut),(.bool true),(.bool false),(.sl 0 [] .shut)])
def d84:AV:=(.agg [(.int .i64 (.ofNat 22)),(.int .i64 (.ofNat 0)),(.sl 0 [] .shut),(.int .i64 (.ofNat 0)),(.int .i64 (.ofNat 0)),(.bool false),(.sl 0 [] .shut),(.str []),(.sl 0 [] .shut),(.sl 0 [] .shut),(.sl 0 [d13,d2] .shut)])
def d85:AV:=(.agg [(.int .i64 (.ofNat 46)),(.int .i64 (.ofNat 4)),(.sl 0 [] .shut),(.int .i64 (.ofNat 0)),(.int .i64 (.ofNat 0)),(.bool false),(.sl 0 [] .shut),(.str []),(.sl 0 [] .shut),(.sl 0 [] .shut),(.sl 0 [d59,d59] .shut)])
def d86:AV:=(.agg [(.int .i64 (.ofNat 30)),(.int .i64 (.ofNat 1)),(.sl 0 [] .shut),(.int .i64 (.ofNat 0)),(.int .i64 (.ofNat 0)),(.bool false),(.sl 0 [] .shut),(.str []),(.sl 0 [] .shut),(.sl 0 [] .shut),(.sl 0 [d84,d85] .shut)])
def d87:AV:=(.agg [(.int .i64 (.ofNat 5)),(.int .i64 (.ofNat 0)),(.bool false),(.sl 0 [] .shut),(.str []),(.sl 0 [d25,d24] .shut),(.sl 0 [] .shut)])
def d88:AV:=(.tuple [d79,(.int .i64 (.ofNat 0)),(.int .i64 (.ofNat 0))])
def d89:AV:=(.agg [(.int .i64 (.ofNat 31)),(.int .i64 (.ofNat 0)),(.sl 0 [] .shut),(.int .i64 (.ofNat 0)),(.int .i64 (.ofNat 0)),(.bool false),(.sl 0 [] .shut),(.str []),(.sl 0 [] .shut),(.sl 0 [] .shut),(.sl 0 [d86,d13] .shut)])
def d90:AV:=(.agg [(.int .i64 (.ofNat 2)),(.int .i64 (.ofNat 0)),(.bool false),(.sl 0 [(.int .i64 (.ofNat 12))] .shut),(.str []),(.sl 0 [] .shut),(.sl 0 [] .shut)])
def d91:AV:=(.agg [(.int .i64 (.ofNat 1)),(.int .i64 (.ofNat 0)),(.sl 0 [] .shut),(.int .i64 (.ofNat 2)),(.int .i64 (.ofNat 0)),(.bool false),(.sl 0 [(.int .i64 (.ofNat 12))] .shut),(.str []),(.sl 0 [] .shut),(.sl 0 [] .shut),(.sl 0 [] .shut)])
def d92:AV:=(.agg [(.int .i64 (.ofNat 46)),(.int .i64 (.ofNat 10)),(.sl 0 [] .shut),(.int .i64 (.ofNat 0)),(.int .i64 (.ofNat 0)),(.bool false),(.sl 0 [] .shut),(.str []),(.sl 0 [] .shut),(.sl 0 [] .shut),(.sl 0 [d13,d91] .shut)])
def d93:AV:=(.agg [(.int .i64 (.ofNat 25)),(.int .i64 (.ofNat 0)),(.sl 0 [] .shut),(.int .i64 (.ofNat 0)),(.int .i64 (.ofNat 0)),(.bool false),(.sl 0 [] .shut),(.str []),(.sl 0 [] .shut),(.sl 0 [] .shut),(.sl 0 [d92] .shut)])
def d94:AV:=(.tuple [(.int .i64 (.ofNat 11)),.niliface])
def d95:AV:=(.agg [(.int .i64 (.ofNat 2)),(.int .i64 (.ofNat 0)),(.bool false),(.sl 0 [(.int .i64 (.ofNat 3))] .shut),(.str []),(.sl 0 [] .shut),(.sl 0 [] .shut)])
def d96:AV:=(.agg [(.int .i64 (.ofNat 2)),(.int .i64 (.ofNat 0)),(.bool false),(.sl 0 [(.int .i64 (.ofNat 5))] .shut),(.str []),(.sl 0 [] .shut),(.sl 0 [] .shut)])
def d97:AV:=(.agg [(.int .i64 (.ofNat 2)),(.int .i64 (.ofNat 0)),(.bool false),(.sl 0 [(.int .i64 (.ofNat 6))] .shut),(.str []),(.sl 0 [] .shut),(.sl 0 [] .shut)])
def d98:AV:=(.agg [(.int .i64 (.ofNat 2)),(.int .i64 (.ofNat 0)),(.bool false),(.sl 0 [(.int .i64 (.ofNat 7))] .shut),(.str []),(.sl 0 [] .shut),(.sl 0 [] .shut)])
def d99:AV:=(.agg [(.int .i64 (.ofNat 2)),(.int .i64 (.ofNat 0)),(.bool false),(.sl 0 [(.int .i64 (.ofNat 8))] .shut),(.str []),(.sl 0 [] .shut),(.sl 0 [] .shut)])
def d100:AV:=(.agg [(.int .i64 (.ofNat 2)),(.int .i64 (.ofNat 0)),(.bool false),(.sl 0 [(.int .i64 (.ofNat 9))] .shut),(.str []),(.sl 0 [] .shut),(.sl 0 [] .shut)])
def d101:AV:=(.agg [(.int .i64 (.ofNat 2)),(.int .i64 (.ofNat 0)),(.bool false),(.sl 0 [(.int .i64 (.ofNat 10))] .shut),(.str []),(.sl 0 [] .shut),(.sl 0 [] .shut)])
def d102:AV:=(.agg [(.int .i64 (.ofNat 2)),(.int .i64 (.ofNat 0)),(.bool false),(.sl 0 [(.int .i64 (.ofNat 11))] .shut),(.str []),(.sl 0 [] .shut),(.sl 0 [] .shut)])
def d103:AV:=(.sl 0 [d25,d24,d95,d77,d96,d97,d98,d99,d100,d101,d102,d90] .shut)
def d104:AV:=(.agg [(.int .i64 (.ofNat 5)),(.int .i64 (.ofNat 0)),(.bool false),(.sl 0 [] .shut),(.str []),d103,(.sl 0 [] .shut)])
def d105:AV:=(.tuple [(.int .i64 (.ofNat 13)),(.int .i64 (.ofNat 2))])
def d106:AV:=(.agg [(.bool false),(.sl 0 [(.int .i64 (.ofNat 12))] .shut)])
def d107:AV:=(.tuple [d47,(.int .i64 (.ofNat 6)),(.int .i64 (.ofNat 0))])
def d108:AV:=(.agg [(.int .i64 (.ofNat 19)),(.int .i64 (.ofNat 0)),(.sl 0 [] .shut),(.int .i64 (.ofNat 0)),(.int .i64 (.ofNat 0)),(.bool false),(.sl 0 [] .shut),(.str []),(.sl 0 [] .shut),(.sl 0 [] .shut),(.sl 0 [d13,d2] .shut)])
def d109:AV:=(.agg [d0,(.sl 0 [] .shut),(.sl 0 [d3,d6] .shut),(.sl 0 [] .shut),(.sl 0 [d54,d108] .shut),(.int .i64 (.ofNat 11)),(.int .i64 (.ofNat 0)),(.sl 0 [] .shut),(.int .i64 (.ofNat 0)),(.int .i64 (.ofNat 0)),(.bool false),(.sl 0 [] .shut),(.str []),(.sl 0 [] .shut),(.sl 0 [] .shut),(.sl 0 [d8,d10] .shut),(.int .i64 (.ofNat 11)),(.int .i64 (.ofNat 0)),(.sl 0 [] .shut),(.int .i64 (.ofNat 0)),(.int .i64 (.ofNat 0)),(.bool false),(.sl 0 [] .shut),(.str []),(.sl 0 [] .shut),(.sl 0 [] .shut),(.sl 0 [d11,d15,d17] .shut),(.sl 0 [] .shut),(.sl 0 [] .shut),(.sl 0 [] .shut),(.sl 0 [] .shut),(.sl 0 [] .shut),(.sl 0 [] .shut),(.sl 0 [] .shut),(.bool false)])
def d110:AV:=(.agg [d0,(.sl 0 [] .shut),(.sl 0 [d3,d6] .shut),(.sl 0 [] .shut),(.sl 0 [d54,d108] .clip),(.int .i64 (.ofNat 11)),(.int .i64 (.ofNat 0)),(.sl 0 [] .shut),(.int .i64 (.ofNat 0)),(.int .i64 (.ofNat 0)),(.bool false),(.sl 0 [] .shut),(.str []),(.sl 0 [] .shut),(.sl 0 [] .shut),(.sl 0 [d8,d10] .shut),(.int .i64 (.ofNat 11)),(.int .i64 (.ofNat 0)),(.sl 0 [] .shut),(.int .i64 (.ofNat 0)),(.int .i64 (.ofNat 0)),(.bool false),(.sl 0 [] .shut),(.str []),(.sl 0 [] .shut),(.sl 0 [] .shut),(.sl 0 [d11,d15,d17] .shut),(.sl 0 [] .shut),(.sl 0 [] .shut),(.sl 0 [] .shut),(.sl 0 [] .shut),(.sl 0 [] .shut),(.sl 0 [] .shut),(.sl 0 [] .shut),(.bool false)])
def d111:AV:=(.tuple [(.int .i64 (.ofNat 1)),(.int .i64 (.ofNat 0)),(.int .i64 (.ofNat 0))])
def d112:AV:=(.agg [(.sl 0 [(.str [97])] .clip),(.sl 0 [] .shut),(.sl 0 [d3,d6] .shut),(.sl 0 [] .shut),(.sl 0 [] .shut),(.int .i64 (.ofNat 11)),(.int .i64 (.ofNat 0)),(.sl 0 [] .shut),(.int .i64 (.ofNat 0)),(.int .i64 (.ofNat 0)),(.bool false),(.sl 0 [] .shut),(.str []),(.sl 0 [] .shut),(.sl 0 [] .shut),(.sl 0 [d8,d10] .shut),(.int .i64 (.ofNat 11)),(.int .i64 (.ofNat 0)),(.sl 0 [] .shut),(.int .i64 (.ofNat 0)),(.int .i64 (.ofNat 0)),(.bool false),(.sl 0 [] .shut),(.str []),(.sl 0 [] .shut),(.sl 0 [] .shut),(.sl 0 [d11,d15,d17] .shut),(.sl 0 [] .shut),(.sl 0 [] .shut),(.sl 0 [] .shut),(.sl 0 [] .shut),(.sl 0 [] .shut),(.sl 0 [] .shut),(.sl 0 [] .shut),(.bool false)])
def M0:Env:=E
def tab0:List (Nat×List AV×AV):=[(10,[],d18),
 (239,[d19],(.bool true)),
 (239,[d20],(.bool true)),
 (239,[d21],(.bool true)),
 (239,[d22],(.bool true)),
 (239,[d23],(.bool true)),
 (239,[d24],(.bool true)),
 (239,[d25],(.bool true)),
 (350,[(.str [50]),(.int .i64 (.ofNat 10)),(.int .i64 (.ofNat 64))],d26),
 (91,[d25,d23],(.int .i64 (.ofNat 1))),
 (91,[d24,d25],(.int .i64 (.ofNat 1))),
 (352,[d27,(.int .i64 (.ofNat 8000)),(.int .i64 (.ofNat 50))],d28),
 (91,[d20,d19],(.int .i64 (.ofNat 1))),
 (352,[d31,(.int .i64 (.ofNat 8000)),(.int .i64 (.ofNat 50))],d32),
 (42,[d33],d33),
 (91,[d23,d23],(.int .i64 (.ofNat 0))),
 (91,[d20,d20],(.int .i64 (.ofNat 0))),
 (91,[d19,d19],(.int .i64 (.ofNat 0))),
 (91,[d24,d23],(.int .i64 (.ofNat 1))),
 (91,[d19,d20],(.int .i64 (.negSucc 0))),
 (230,[(.int .i64 (.ofNat 8)),d38,d30],d39),
 (230,[(.int .i64 (.ofNat 1)),d38,d38],d24),
 (91,[d23,d24],(.int .i64 (.negSucc 0))),
 (91,[d25,d24],(.int .i64 (.negSucc 0))),
 (91,[d24,d24],(.int .i64 (.ofNat 0))),
 (230,[(.int .i64 (.ofNat 8)),d30,d30],d42),
 (39,[d18,d12,(.int .i64 (.ofNat 0))],(.bool true)),
 (91,[d25,d25],(.int .i64 (.ofNat 0))),
 (91,[d47,d47],(.int .i64 (.ofNat 0))),
 (91,[d42,d42],(.int .i64 (.ofNat 0))),
 (239,[d39],(.bool true)),
 (239,[d42],(.bool true)),
 (204,[(.sl 0 [] .shut)],(.tuple [d64,(.int .i64 (.ofNat 0))])),
 (239,[d66],(.bool true)),
 (287,[(.int .i64 (.ofNat 2))],(.sl 0 [d25,d24] .shut)),
 (352,[d73,(.int .i64 (.ofNat 8000)),(.int .i64 (.ofNat 50))],d74),
 (91,[d39,d39],(.int .i64 (.ofNat 0))),
 (39,[d18,d68,(.int .i64 (.ofNat 0))],(.bool true)),
 (99,[(.sl 0 [d25,d24] .shut)],(.bool true)),
 (99,[(.sl 0 [d25,d77] .shut)],(.bool true)),
 (191,[(.sl 0 [d25] .shut),(.sl 0 [d24] .shut)],(.sl 0 [d25,d24] .shut)),
 (101,[(.sl 0 [d25,d24] .shut),d25],d78),
 (175,[d79],d74),
 (230,[(.int .i64 (.ofNat 1)),d29,d38],d25),
 (91,[d23,d25],(.int .i64 (.negSucc 0))),
 (352,[d87,(.int .i64 (.ofNat 8000)),(.int .i64 (.ofNat 50))],d32),
 (230,[(.int .i64 (.ofNat 4)),d38,d38],d25),
 (230,[(.int .i64 (.ofNat 4)),d30,d30],d77),
 (239,[d77],(.bool true)),
 (352,[d79,(.int .i64 (.ofNat 8000)),(.int .i64 (.ofNat 50))],d74),
 (98,[d79],d79),
 (91,[d77,d77],(.int .i64 (.ofNat 0))),
 (239,[d90],(.bool true)),
 (374,[(.str [49,49]),(.int .i64 (.ofNat 10)),(.int .i64 (.ofNat 64))],d94),
 (239,[d95],(.bool true)),
 (239,[d96],(.bool true)),
 (239,[d97],(.bool true)),
 (239,[d98],(.bool true)),
 (239,[d99],(.bool true)),
 (239,[d100],(.bool true)),
 (239,[d101],(.bool true)),
 (239,[d102],(.bool true)),
 (91,[d95,d24],(.int .i64 (.ofNat 1))),
 (91,[d77,d95],(.int .i64 (.ofNat 1))),
 (91,[d96,d77],(.int .i64 (.ofNat 1))),
 (91,[d97,d96],(.int .i64 (.ofNat 1))),
 (91,[d98,d97],(.int .i64 (.ofNat 1))),
 (91,[d99,d98],(.int .i64 (.ofNat 1))),
 (91,[d100,d99],(.int .i64 (.ofNat 1))),
 (91,[d101,d100],(.int .i64 (.ofNat 1))),
 (91,[d102,d101],(.int .i64 (.ofNat 1))),
 (91,[d90,d102],(.int .i64 (.ofNat 1))),
 (352,[d104,(.int .i64 (.ofNat 8000)),(.int .i64 (.ofNat 50))],d105),
 (39,[d109,d59,(.int .i64 (.ofNat 0))],(.bool false))]
def M1:Env:=M0.memo tab0
def tab1:List (Nat×List AV×AV):=[(6,[d18],(.int .i64 (.ofNat 0))),
 (303,[d29,d30],d27),
 (204,[(.sl 0 [d19,d20] .shut)],(.tuple [d31,(.int .i64 (.ofNat 0))])),
 (239,[d31],(.bool true)),
 (39,[d18,d49,(.int .i64 (.ofNat 0))],(.bool true)),
 (39,[d18,d52,(.int .i64 (.ofNat 0))],(.bool true)),
 (39,[d18,d55,(.int .i64 (.ofNat 0))],(.bool true)),
 (39,[d18,d57,(.int .i64 (.ofNat 0))],(.bool true)),
 (39,[d18,d61,(.int .i64 (.ofNat 0))],(.bool true)),
 (39,[d18,d63,(.int .i64 (.ofNat 0))],(.bool true)),
 (39,[d18,d69,(.int .i64 (.ofNat 0))],(.bool true)),
 (39,[d18,d72,(.int .i64 (.ofNat 0))],(.bool true)),
 (324,[d73],(.bool true)),
 (239,[d73],(.bool true)),
 (31,[(.sl 0 [d25,d77] .clip)],(.tuple [d79,(.int .i64 (.ofNat 0))])),
 (39,[d18,d81,(.int .i64 (.ofNat 0))],(.bool true)),
 (39,[d18,d86,(.int .i64 (.ofNat 0))],(.bool true)),
 (204,[(.sl 0 [d25,d24] .shut)],(.tuple [d87,(.int .i64 (.ofNat 0))])),
 (91,[d79,d79],(.int .i64 (.ofNat 0))),
 (39,[d18,d89,(.int .i64 (.ofNat 0))],(.bool true)),
 (239,[d79],(.bool true)),
 (39,[d18,d93,(.int .i64 (.ofNat 0))],(.bool true)),
 (280,[d103],(.bool true)),
 (6,[d109],(.int .i64 (.ofNat 0))),
 (6,[d112],(.int .i64 (.ofNat 6))),
 (6,[d110],(.int .i64 (.ofNat 0)))]
def M2:Env:=M1.memo tab1
def tab2:List (Nat×List AV×AV):=[(41,[d18],d34),
 (94,[d18,(.sl 0 [d25,d20] .shut)],d37),
 (94,[d18,(.sl 0 [d24,d19] .shut)],d37),
 (51,[d18,d12,d44],d45),
 (51,[d18,d12,d46],d48),
 (51,[d18,d49,d50],d51),
 (51,[d18,d52,d50],d53),
 (51,[d18,d55,d50],d53),
 (51,[d18,d57,d50],d51),
 (51,[d18,d61,d50],d45),
 (51,[d18,d63,d50],d65),
 (51,[d18,d69,d50],d51),
 (51,[d18,d72,d50],d75),
 (51,[d18,d68,d50],d76),
 (51,[d18,d86,d50],d88),
 (51,[d18,d89,d50],d45),
 (303,[d38,d106],d104),
 (32,[d110],d111)]
def M3:Env:=M2.memo tab2
def tab3:List (Nat×List AV×AV):=[(14,[d18],d36),
 (15,[d18,(.sl 0 [d25,d20] .shut)],d41),
 (15,[d18,(.sl 0 [d24,d19] .shut)],d43),
 (51,[d18,d81,d82],d51),
 (51,[d18,d81,d83],d75),
 (51,[d18,d93,d50],d107)]
def M4:Env:=M3.memo tab3
def tab4:List (Nat×List AV×AV):=[(4,[],(.bool true))]
def M5:Env:=M4.memo tab4
end Go.Ab.X
end
