/- A part. -/
import Derived.Test.YtodldpffhfgicaaGreatDoorX1
import Derived.KernelRfl
set_option linter.all false
noncomputable section
namespace Go.Ab.X
open Go Go.Ab Go.Proofs
set_option maxRecDepth 100000
theorem tis:tisB E Tryz.prog 492 0=true:=by kernel_rfl
theorem fl0:fnsL E [0,1,2,3,4,5,6,7,8,9,10,11,12,13,14,15,16,17,18,19,20,21,22,23,24,25,26,27,28,29]=true:=by kernel_rfl
theorem fl1:fnsL E [30,31,32,33,34,35,36,37,38,39,40,41,42,43,44,45,46,47,48,49,50,51,52,53,54,55,56,57,58,59]=true:=by kernel_rfl
theorem fl2:fnsL E [60,61,62,63,64,65,66,67,68,69,70,71,72,73,74,75,76,77,78,79,80,81,82,83,84,85,86,87,88,89]=true:=by kernel_rfl
theorem fl3:fnsL E [90,91,92,93,94,95,96,97,98,99,100,101,102,103,104,105,106,107,108,109,110,111,112,113,114,115,116,117,118,119]=true:=by kernel_rfl
theorem fl4:fnsL E [120,121,122,123,124,125,126,127,128,129,130,131,132,133,134,135,136,137,138,139,140,141,142,143,144,145,146,147,148,149]=true:=by kernel_rfl
theorem fl5:fnsL E [150,151,152,153,154,155,156,157,158,159,160,161,162,163,164,165,166,167,168,169,170,171,172,173,174,175,176,177,178,179]=true:=by kernel_rfl
theorem fl6:fnsL E [180,181,182,183,184,185,186,187,188,189,190,191,192,193,194,195,196,197,198,199,200,201,202,203,204,205,206,207,208,209]=true:=by kernel_rfl
theorem fl7:fnsL E [210,211,212,213,214,215,216,217,218,219,220,221,222,223,224,225,226,227,228,229,230,231,232,233,234,235,236,237,238,239]=true:=by kernel_rfl
theorem fl8:fnsL E [240,241,242,243,244,245,246,247,248,249,250,251,252,253,254,255,256,257,258,259,260,261,262,263,264,265,266,267,268,269]=true:=by kernel_rfl
theorem fl9:fnsL E [270,271,272,273,274,275,276,277,278,279,280,281,282,283,284,285,286,287,288,289,290,291,292,293,294,295,296,297,298,299]=true:=by kernel_rfl
theorem fl10:fnsL E [300,301,302,303,304,305,306,307,308,309,310,311,312,313,314,315,316,317,318,319,320,321,322,323,324,325,326,327,328,329]=true:=by kernel_rfl
theorem fl11:fnsL E [330,331,332,333,334,335,336,337,338,339,340,341,342,343,344,345,346,347,348,349,350,351,352,353,354,355,356,357,358,359]=true:=by kernel_rfl
theorem fl12:fnsL E [360,361,362,363,364,365,366,367,368,369,370,371,372,373,374,375,376,377,378,379,380,381,382,383,384,385,386,387,388,389]=true:=by kernel_rfl
theorem fl13:fnsL E [390,391,392,393,394,395,396,397,398,399,400,401,402,403,404,405,406,407,408,409,410,411,412,413,414,415,416,417,418,419]=true:=by kernel_rfl
theorem fl14:fnsL E [420,421,422,423,424,425,426,427,428,429,430,431,432,433,434,435,436,437,438,439,440,441,442,443,444,445,446,447,448,449]=true:=by kernel_rfl
theorem fl15:fnsL E [450,451,452,453,454,455,456,457,458,459,460,461,462,463,464,465,466,467,468,469,470,471,472,473,474,475,476,477,478,479]=true:=by kernel_rfl
theorem fl16:fnsL E [480,481,482,483,484,485,486,487,488,489,490,491,492,493,494,495,496,497,498,499,500,501,502,503,504,505,506,507,508,509]=true:=by kernel_rfl
theorem fl17:fnsL E [510,511,512,513,514,515,516,517,518,519,520,521,522,523,524,525,526,527,528,529,530,531,532,533,534,535,536,537,538,539]=true:=by kernel_rfl
theorem fl18:fnsL E [540,541,542,543,544,545,546,547,548,549,550,551,552,553,554,555,556,557,558,559,560,561,562,563,564,565,566]=true:=by kernel_rfl
theorem tys:TysOk E Tryz.prog:=tysOk tis fun t ht=>by
 show(types t).ok=false
 unfold types
 have:Nat.blt t 492=false:=by
  cases h:Nat.blt t 492 with
  | false=>rfl
  | true=>exact absurd (Eq.mp Nat.blt_eq h) (Nat.not_lt.2 ht)
 rw[this];rfl
theorem fsEq:List.map (fun i=>E.funcs i) (List.range 567)=maskL 83689861279222482549074120629267865646342606199124602115108118826278741405925487956077226826013935227664263101731312052887252195227172784270152402391945986024 Tryz.prog.funcs.toList:=by kernel_rfl
theorem fsNone:∀t,567≤t→E.funcs t=none:=fun t ht=>by
 show funcs t=none
 unfold funcs
 have:Nat.blt t 567=false:=by
  cases h:Nat.blt t 567 with
  | false=>rfl
  | true=>exact absurd (Eq.mp Nat.blt_eq h) (Nat.not_lt.2 ht)
 rw[this];rfl
theorem fsNames:allNG Tryz.prog.funcs.toList=true:=by kernel_rfl
theorem mixed:Tryz.prog.follows .mixedOrders=true:=by kernel_rfl
theorem fsCode:∀f:Nat,f<567→∀fn,E.funcs f=some fn→fnB E f fn=true:=by
 intro f hf fn hfn
 by_cases h0:f<30
 ·exact zA7 fl0 f (zBT (a:=0) (n:=30) (by omega) (by omega)) fn hfn
 by_cases h1:f<60
 ·exact zA7 fl1 f (zBT (a:=30) (n:=30) (by omega) (by omega)) fn hfn
 by_cases h2:f<90
 ·exact zA7 fl2 f (zBT (a:=60) (n:=30) (by omega) (by omega)) fn hfn
 by_cases h3:f<120
 ·exact zA7 fl3 f (zBT (a:=90) (n:=30) (by omega) (by omega)) fn hfn
 by_cases h4:f<150
 ·exact zA7 fl4 f (zBT (a:=120) (n:=30) (by omega) (by omega)) fn hfn
 by_cases h5:f<180
 ·exact zA7 fl5 f (zBT (a:=150) (n:=30) (by omega) (by omega)) fn hfn
 by_cases h6:f<210
 ·exact zA7 fl6 f (zBT (a:=180) (n:=30) (by omega) (by omega)) fn hfn
 by_cases h7:f<240
 ·exact zA7 fl7 f (zBT (a:=210) (n:=30) (by omega) (by omega)) fn hfn
 by_cases h8:f<270
 ·exact zA7 fl8 f (zBT (a:=240) (n:=30) (by omega) (by omega)) fn hfn
 by_cases h9:f<300
 ·exact zA7 fl9 f (zBT (a:=270) (n:=30) (by omega) (by omega)) fn hfn
 by_cases h10:f<330
 ·exact zA7 fl10 f (zBT (a:=300) (n:=30) (by omega) (by omega)) fn hfn
 by_cases h11:f<360
 ·exact zA7 fl11 f (zBT (a:=330) (n:=30) (by omega) (by omega)) fn hfn
 by_cases h12:f<390
 ·exact zA7 fl12 f (zBT (a:=360) (n:=30) (by omega) (by omega)) fn hfn
 by_cases h13:f<420
 ·exact zA7 fl13 f (zBT (a:=390) (n:=30) (by omega) (by omega)) fn hfn
 by_cases h14:f<450
 ·exact zA7 fl14 f (zBT (a:=420) (n:=30) (by omega) (by omega)) fn hfn
 by_cases h15:f<480
 ·exact zA7 fl15 f (zBT (a:=450) (n:=30) (by omega) (by omega)) fn hfn
 by_cases h16:f<510
 ·exact zA7 fl16 f (zBT (a:=480) (n:=30) (by omega) (by omega)) fn hfn
 by_cases h17:f<540
 ·exact zA7 fl17 f (zBT (a:=510) (n:=30) (by omega) (by omega)) fn hfn
 by_cases h18:f<567
 ·exact zA7 fl18 f (zBT (a:=540) (n:=27) (by omega) (by omega)) fn hfn
 omega
def E0:Env:=E.wi fun _ _=>none
theorem insOk:InsOk E0 Tryz.prog (OkC E0 Tryz.prog):=by
 intro f e args v s s' he h base w0 g w args' _ hr ha _
 cases he
theorem base0:FuncsOk E0 Tryz.prog (OkC E0 Tryz.prog):=funcsOk (n:=567) fsEq fsNone fsNames (fun f hf fn hfn=>by show fnB (E.wi _) f fn=true;rw[fnB_wi];exact fsCode f hf fn hfn) (fun h=>by cases h) insOk
theorem tysOk0:TysOk E0 Tryz.prog:=tys_wi tys
theorem clone65 {args:List AV}{v:AV}(h:zEK args=some v){base:Nat}{w0:World}{g:Gh}{s:Sto}{w:World}{args':Array Value}(hok:g.ok=OkC E0 Tryz.prog)(hr:Rel base w0 g s w)(ha:VRs g args args') :
  zC3 Tryz.prog base w0 g s w 65 args' (.ret v) s:=
 zJ2 (E:=E0) (fn:=Tryz.f65) (T:=44) (el:=30) tysOk0 (fun h1 h2=>base0.fn h1 h2) (sim tysOk0 base0 mixed 20) (by kernel_rfl) rfl rfl ⟨rfl,rfl,rfl⟩ ⟨rfl,rfl,rfl⟩ ⟨rfl,rfl,rfl⟩ (by kernel_rfl) (by kernel_rfl) (by kernel_rfl) h hok hr ha
theorem clone176 {args:List AV}{v:AV}(h:zEK args=some v){base:Nat}{w0:World}{g:Gh}{s:Sto}{w:World}{args':Array Value}(hok:g.ok=OkC E0 Tryz.prog)(hr:Rel base w0 g s w)(ha:VRs g args args') :
  zC3 Tryz.prog base w0 g s w 176 args' (.ret v) s:=
 zJ2 (E:=E0) (fn:=Tryz.f176) (T:=30) (el:=32) tysOk0 (fun h1 h2=>base0.fn h1 h2) (sim tysOk0 base0 mixed 20) (by kernel_rfl) rfl rfl ⟨rfl,rfl,rfl⟩ ⟨rfl,rfl,rfl⟩ ⟨rfl,rfl,rfl⟩ (by kernel_rfl) (by kernel_rfl) (by kernel_rfl) h hok hr ha
theorem clone199 {args:List AV}{v:AV}(h:zEK args=some v){base:Nat}{w0:World}{g:Gh}{s:Sto}{w:World}{args':Array Value}(hok:g.ok=OkC E0 Tryz.prog)(hr:Rel base w0 g s w)(ha:VRs g args args') :
  zC3 Tryz.prog base w0 g s w 199 args' (.ret v) s:=
 zJ2 (E:=E0) (fn:=Tryz.f199) (T:=27) (el:=3) tysOk0 (fun h1 h2=>base0.fn h1 h2) (sim tysOk0 base0 mixed 20) (by kernel_rfl) rfl rfl ⟨rfl,rfl,rfl⟩ ⟨rfl,rfl,rfl⟩ ⟨rfl,rfl,rfl⟩ (by kernel_rfl) (by kernel_rfl) (by kernel_rfl) h hok hr ha
theorem ok:TysOk E Tryz.prog∧FuncsOk E Tryz.prog (OkC E Tryz.prog):=by
 refine wi_ok (E:=E0) (i:=intr) tysOk0 base0 ?_
 intro f args v hv base w0 g s w args' hok hr ha ht
 unfold intr at hv
 simp only[cond_eq_ite] at hv
 split at hv
 ·rename_i hf
  have:=Nat.eq_of_beq_eq_true hf
  subst this
  exact id_norm (fn:=Tryz.f517) (by kernel_rfl) (by kernel_rfl) (by kernel_rfl) (by kernel_rfl) (by kernel_rfl) hv hr ha ht
 split at hv
 ·rename_i hf
  have:=Nat.eq_of_beq_eq_true hf
  subst this
  exact cmp_norm (fn:=Tryz.f327) (by kernel_rfl) (by kernel_rfl) (by kernel_rfl) (by kernel_rfl) (by kernel_rfl) hv hr ha ht
 split at hv
 ·rename_i hf
  have:=Nat.eq_of_beq_eq_true hf
  subst this
  exact clone65 hv hok hr ha
 split at hv
 ·rename_i hf
  have:=Nat.eq_of_beq_eq_true hf
  subst this
  exact clone176 hv hok hr ha
 split at hv
 ·rename_i hf
  have:=Nat.eq_of_beq_eq_true hf
  subst this
  exact clone199 hv hok hr ha
 cases hv
theorem run (n:Nat):ExecSim Tryz.prog (OkC E Tryz.prog) (iter E n)∧CallSim Tryz.prog (OkC E Tryz.prog) (iter E n):=sim ok.1 ok.2 mixed n
end Go.Ab.X
namespace Go.Ab.X
open Go Go.Ab Go.Proofs
def d0:AV:=(.agg [(.int .i64 (.ofNat 1)),(.int .i64 (.ofNat 0)),(.sl 0 [] .shut),(.int .i64 (.ofNat 2)),(.int .i64 (.ofNat 0)),(.bool false),(.sl 0 [] .shut),(.str []),(.sl 0 [] .shut),(.sl 0 [] .shut),(.sl 0 [] .shut)])
def d1:AV:=(.agg [(.int .i64 (.ofNat 1)),(.int .i64 (.ofNat 0)),(.sl 0 [] .shut),(.int .i64 (.ofNat 2)),(.int .i64 (.ofNat 0)),(.bool false),(.sl 0 [(.int .i64 (.ofNat 3))] .shut),(.str []),(.sl 0 [] .shut),(.sl 0 [] .shut),(.sl 0 [] .shut)])
def d2:AV:=(.agg [(.str [120]),(.int .i64 (.ofNat 46)),(.int .i64 (.ofNat 10)),(.sl 0 [] .shut),(.int .i64 (.ofNat 0)),(.int .i64 (.ofNat 0)),(.bool false),(.sl 0 [] .shut),(.str []),(.sl 0 [] .shut),(.sl 0 [] .shut),(.sl 0 [d0,d1] .shut)])
def d3:AV:=(.agg [(.int .i64 (.ofNat 2)),(.int .i64 (.ofNat 0)),(.sl 0 [] .shut),(.int .i64 (.ofNat 0)),(.int .i64 (.ofNat 0)),(.bool false),(.sl 0 [] .shut),(.str []),(.sl 0 [] .shut),(.sl 0 [] .shut),(.sl 0 [] .shut)])
def d4:AV:=(.agg [(.int .i64 (.ofNat 5)),(.int .i64 (.ofNat 0)),(.sl 0 [] .shut),(.int .i64 (.ofNat 0)),(.int .i64 (.ofNat 0)),(.bool false),(.sl 0 [] .shut),(.str []),(.sl 0 [] .shut),(.sl 0 [] .shut),(.sl 0 [d3] .shut)])
def d5:AV:=(.agg [(.int .i64 (.ofNat 1)),(.int .i64 (.ofNat 0)),(.sl 0 [] .shut),(.int .i64 (.ofNat 2)),(.int .i64 (.ofNat 0)),(.bool false),(.sl 0 [(.int .i64 (.ofNat 1))] .shut),(.str []),(.sl 0 [] .shut),(.sl 0 [] .shut),(.sl 0 [] .shut)])
def d6:AV:=(.agg [(.int .i64 (.ofNat 46)),(.int .i64 (.ofNat 1)),(.sl 0 [] .shut),(.int .i64 (.ofNat 0)),(.int .i64 (.ofNat 0)),(.bool false),(.sl 0 [] .shut),(.str []),(.sl 0 [] .shut),(.sl 0 [] .shut),(.sl 0 [d3,d5] .shut)])
def d7:AV:=(.agg [(.int .i64 (.ofNat 1)),(.int .i64 (.ofNat 0)),(.sl 0 [] .shut),(.int .i64 (.ofNat 2)),(.int .i64 (.ofNat 0)),(.bool false),(.sl 0 [(.int .i64 (.ofNat 4))] .shut),(.str []),(.sl 0 [] .shut),(.sl 0 [] .shut),(.sl 0 [] .shut)])
def d8:AV:=(.agg [(.int .i64 (.ofNat 46)),(.int .i64 (.ofNat 6)),(.sl 0 [] .shut),(.int .i64 (.ofNat 0)),(.int .i64 (.ofNat 0)),(.bool false),(.sl 0 [] .shut),(.str []),(.sl 0 [] .shut),(.sl 0 [] .shut),(.sl 0 [d6,d7] .shut)])
def d9:AV:=(.agg [(.bool false),(.int .i64 (.ofNat 19)),(.int .i64 (.ofNat 0)),(.sl 0 [] .shut),(.int .i64 (.ofNat 0)),(.int .i64 (.ofNat 0)),(.bool false),(.sl 0 [] .shut),(.str []),(.sl 0 [] .shut),(.sl 0 [] .shut),(.sl 0 [d4,d8] .shut),(.int .i64 (.ofNat 2)),(.int .i64 (.ofNat 0)),(.sl 0 [] .shut),(.int .i64 (.ofNat 0)),(.int .i64 (.ofNat 0)),(.bool false),(.sl 0 [] .shut),(.str []),(.sl 0 [] .shut),(.sl 0 [] .shut),(.sl 0 [] .shut)])
def d10:AV:=(.agg [(.sl 0 [] .shut),(.sl 0 [] .shut),(.sl 0 [d2] .shut),(.sl 0 [] .shut),(.sl 0 [] .shut),(.int .i64 (.ofNat 19)),(.int .i64 (.ofNat 0)),(.sl 0 [] .shut),(.int .i64 (.ofNat 0)),(.int .i64 (.ofNat 0)),(.bool false),(.sl 0 [] .shut),(.str []),(.sl 0 [] .shut),(.sl 0 [] .shut),(.sl 0 [d3,d0] .shut),(.int .i64 (.ofNat 19)),(.int .i64 (.ofNat 0)),(.sl 0 [] .shut),(.int .i64 (.ofNat 0)),(.int .i64 (.ofNat 0)),(.bool false),(.sl 0 [] .shut),(.str []),(.sl 0 [] .shut),(.sl 0 [] .shut),(.sl 0 [d4,d8] .shut),(.sl 0 [d9] .shut),(.sl 0 [] .shut),(.sl 0 [] .shut),(.sl 0 [] .shut),(.sl 0 [] .shut),(.sl 0 [] .shut),(.sl 0 [] .shut),(.bool false)])
def d11:AV:=(.sl 0 [(.int .i64 (.ofNat 0)),(.int .i64 (.ofNat 1)),(.int .i64 (.ofNat 2)),(.int .i64 (.ofNat 3))] .clip)
def d12:AV:=(.agg [(.int .i64 (.ofNat 2)),(.int .i64 (.ofNat 0)),(.bool false),(.sl 0 [] .shut),(.str []),(.sl 0 [] .shut),(.sl 0 [] .shut)])
def d13:AV:=(.agg [(.int .i64 (.ofNat 2)),(.int .i64 (.ofNat 0)),(.bool false),(.sl 0 [(.int .i64 (.ofNat 1))] .shut),(.str []),(.sl 0 [] .shut),(.sl 0 [] .shut)])
def d14:AV:=(.agg [(.int .i64 (.ofNat 2)),(.int .i64 (.ofNat 0)),(.bool false),(.sl 0 [(.int .i64 (.ofNat 2))] .shut),(.str []),(.sl 0 [] .shut),(.sl 0 [] .shut)])
def d15:AV:=(.agg [(.int .i64 (.ofNat 2)),(.int .i64 (.ofNat 0)),(.bool false),(.sl 0 [(.int .i64 (.ofNat 3))] .shut),(.str []),(.sl 0 [] .shut),(.sl 0 [] .shut)])
def d16:AV:=(.sl 0 [(.sl 0 [d12] .shut),(.sl 0 [d13] .shut),(.sl 0 [d14] .shut),(.sl 0 [d15] .shut)] .shut)
def d17:AV:=(.agg [(.int .i64 (.ofNat 4)),(.int .i64 (.ofNat 0)),(.bool false),(.sl 0 [] .shut),(.str [120]),(.sl 0 [] .shut),(.sl 0 [] .shut)])
def d18:AV:=(.agg [(.int .i64 (.ofNat 2)),(.int .i64 (.ofNat 0)),(.bool false),(.sl 0 [(.int .i64 (.ofNat 4))] .shut),(.str []),(.sl 0 [] .shut),(.sl 0 [] .shut)])
def d19:AV:=(.agg [(.int .i64 (.ofNat 1)),(.int .i64 (.ofNat 0)),(.sl 0 [] .shut),(.int .i64 (.ofNat 2)),(.int .i64 (.ofNat 0)),(.bool false),(.sl 0 [(.int .i64 (.ofNat 2))] .shut),(.str []),(.sl 0 [] .shut),(.sl 0 [] .shut),(.sl 0 [] .shut)])
def d20:AV:=(.agg [(.int .i64 (.ofNat 19)),(.int .i64 (.ofNat 0)),(.sl 0 [] .shut),(.int .i64 (.ofNat 0)),(.int .i64 (.ofNat 0)),(.bool false),(.sl 0 [] .shut),(.str []),(.sl 0 [] .shut),(.sl 0 [] .shut),(.sl 0 [d3,d19] .shut)])
def d21:AV:=(.agg [(.int .i64 (.ofNat 1)),(.int .i64 (.ofNat 19)),(.int .i64 (.ofNat 0)),(.sl 0 [] .shut),(.int .i64 (.ofNat 0)),(.int .i64 (.ofNat 0)),(.bool false),(.sl 0 [] .shut),(.str []),(.sl 0 [] .shut),(.sl 0 [] .shut),(.sl 0 [d3,d19] .shut),(.int .i64 (.ofNat 0)),(.int .i64 (.ofNat 0)),(.sl 0 [] .shut),(.int .i64 (.ofNat 0)),(.int .i64 (.ofNat 0)),(.bool false),(.sl 0 [] .shut),(.str []),(.sl 0 [] .shut),(.sl 0 [] .shut),(.sl 0 [] .shut),(.sl 0 [] .shut)])
def d22:AV:=(.agg [(.int .i64 (.ofNat 9)),(.int .i64 (.ofNat 0)),(.int .i64 (.ofNat 0)),(.sl 0 [] .shut),(.int .i64 (.ofNat 0)),(.int .i64 (.ofNat 0)),(.bool false),(.sl 0 [] .shut),(.str []),(.sl 0 [] .shut),(.sl 0 [] .shut),(.sl 0 [] .shut),(.int .i64 (.ofNat 0)),(.int .i64 (.ofNat 0)),(.sl 0 [] .shut),(.int .i64 (.ofNat 0)),(.int .i64 (.ofNat 0)),(.bool false),(.sl 0 [] .shut),(.str []),(.sl 0 [] .shut),(.sl 0 [] .shut),(.sl 0 [] .shut),(.sl 0 [d21] .shut)])
def d23:AV:=(.agg [(.int .i64 (.ofNat 8)),(.int .i64 (.ofNat 0)),(.int .i64 (.ofNat 0)),(.sl 0 [] .shut),(.int .i64 (.ofNat 0)),(.int .i64 (.ofNat 0)),(.bool false),(.sl 0 [] .shut),(.str []),(.sl 0 [] .shut),(.sl 0 [] .shut),(.sl 0 [] .shut),(.int .i64 (.ofNat 0)),(.int .i64 (.ofNat 0)),(.sl 0 [] .shut),(.int .i64 (.ofNat 0)),(.int .i64 (.ofNat 0)),(.bool false),(.sl 0 [] .shut),(.str []),(.sl 0 [] .shut),(.sl 0 [] .shut),(.sl 0 [] .shut),(.sl 0 [d22] .shut)])
def d24:AV:=(.agg [(.sl 0 [d12] .shut),(.sl 0 [] .shut),(.bool true),(.bool false),(.sl 0 [] .shut)])
def d25:AV:=(.agg [(.int .i64 (.ofNat 1)),(.int .i64 (.ofNat 0)),(.bool false),(.sl 0 [] .shut),(.str []),(.sl 0 [] .shut),(.sl 0 [] .shut)])
def d26:AV:=(.tuple [d25,(.int .i64 (.ofNat 0)),(.int .i64 (.ofNat 0))])
def d27:AV:=(.agg [(.sl 0 [d13] .shut),(.sl 0 [] .shut),(.bool true),(.bool false),(.sl 0 [] .shut)])
def d28:AV:=(.agg [(.sl 0 [d14] .shut),(.sl 0 [] .shut),(.bool true),(.bool false),(.sl 0 [] .shut)])
def d29:AV:=(.agg [(.int .i64 (.ofNat 1)),(.int .i64 (.ofNat 1)),(.bool false),(.sl 0 [] .shut),(.str []),(.sl 0 [] .shut),(.sl 0 [] .shut)])
def d30:AV:=(.tuple [d29,(.int .i64 (.ofNat 0)),(.int .i64 (.ofNat 0))])
def d31:AV:=(.agg [(.sl 0 [d15] .shut),(.sl 0 [] .shut),(.bool true),(.bool false),(.sl 0 [] .shut)])
def d32:AV:=(.sl 0 [(.bool true),(.bool true),(.bool true),(.bool true)] .shut)
def d33:AV:=(.tuple [d32,(.int .i64 (.ofNat 0)),(.int .i64 (.ofNat 0))])
def d34:AV:=(.sl 0 [(.sl 0 [d12] .shut),(.sl 0 [d13] .shut),(.sl 0 [d13] .shut)] .shut)
def d35:AV:=(.sl 0 [(.bool false),(.bool false),(.bool false)] .shut)
def d36:AV:=(.tuple [d35,(.int .i64 (.ofNat 0)),(.int .i64 (.ofNat 0))])
def d37:AV:=(.agg [(.int .i64 (.ofNat 46)),(.int .i64 (.ofNat 8)),(.sl 0 [] .shut),(.int .i64 (.ofNat 0)),(.int .i64 (.ofNat 0)),(.bool false),(.sl 0 [] .shut),(.str []),(.sl 0 [] .shut),(.sl 0 [] .shut),(.sl 0 [d3,d4] .shut)])
def d38:AV:=(.agg [(.int .i64 (.ofNat 2)),(.int .i64 (.ofNat 46)),(.int .i64 (.ofNat 8)),(.sl 0 [] .shut),(.int .i64 (.ofNat 0)),(.int .i64 (.ofNat 0)),(.bool false),(.sl 0 [] .shut),(.str []),(.sl 0 [] .shut),(.sl 0 [] .shut),(.sl 0 [d3,d4] .shut),(.int .i64 (.ofNat 2)),(.int .i64 (.ofNat 0)),(.sl 0 [] .shut),(.int .i64 (.ofNat 0)),(.int .i64 (.ofNat 0)),(.bool false),(.sl 0 [] .shut),(.str []),(.sl 0 [] .shut),(.sl 0 [] .shut),(.sl 0 [] .shut),(.sl 0 [] .shut)])
def d39:AV:=(.agg [(.sl 0 [d12] .shut),(.sl 0 [d13] .shut),(.bool true),(.bool true),(.sl 0 [] .shut)])
def d40:AV:=(.agg [(.int .i64 (.ofNat 45)),(.int .i64 (.ofNat 0)),(.sl 0 [] .shut),(.int .i64 (.ofNat 0)),(.int .i64 (.ofNat 0)),(.bool false),(.sl 0 [] .shut),(.str []),(.sl 0 [] .shut),(.sl 0 [] .shut),(.sl 0 [d3] .shut)])
def d41:AV:=(.agg [(.bool false),(.sl 0 [(.int .i64 (.ofNat 1))] .shut)])
def d42:AV:=(.agg [(.bool false),(.sl 0 [(.int .i64 (.ofNat 2))] .shut)])
def d43:AV:=(.agg [(.sl 0 [d13] .shut),(.sl 0 [d14] .shut),(.bool true),(.bool true),(.sl 0 [] .shut)])
def d44:AV:=(.agg [(.bool false),(.sl 0 [(.int .i64 (.ofNat 3))] .shut)])
def d45:AV:=(.agg [(.sl 0 [d14] .shut),(.sl 0 [d15] .shut),(.bool true),(.bool true),(.sl 0 [] .shut)])
def d46:AV:=(.agg [(.sl 0 [d15] .shut),(.sl 0 [d12] .shut),(.bool true),(.bool true),(.sl 0 [] .shut)])
def d47:AV:=(.sl 0 [(.bool false),(.bool false),(.bool false),(.bool false)] .shut)
def d48:AV:=(.tuple [d47,(.int .i64 (.ofNat 0)),(.int .i64 (.ofNat 0))])
def d49:AV:=(.agg [(.sl 0 [d13] .shut),(.sl 0 [d13] .shut),(.bool true),(.bool true),(.sl 0 [] .shut)])
def d50:AV:=(.sl 0 [(.bool true),(.bool true),(.bool true)] .shut)
def d51:AV:=(.tuple [d50,(.int .i64 (.ofNat 0)),(.int .i64 (.ofNat 0))])
def d52:AV:=(.agg [(.int .i64 (.ofNat 46)),(.int .i64 (.ofNat 10)),(.sl 0 [] .shut),(.int .i64 (.ofNat 0)),(.int .i64 (.ofNat 0)),(.bool false),(.sl 0 [] .shut),(.str []),(.sl 0 [] .shut),(.sl 0 [] .shut),(.sl 0 [d0,d1] .shut)])
def d53:AV:=(.agg [(.int .i64 (.ofNat 4)),(.int .i64 (.ofNat 0)),(.sl 0 [] .shut),(.int .i64 (.ofNat 0)),(.int .i64 (.ofNat 0)),(.bool false),(.sl 0 [] .shut),(.str []),(.sl 0 [] .shut),(.sl 0 [] .shut),(.sl 0 [] .shut)])
def d54:AV:=(.agg [(.int .i64 (.ofNat 19)),(.int .i64 (.ofNat 0)),(.sl 0 [] .shut),(.int .i64 (.ofNat 0)),(.int .i64 (.ofNat 0)),(.bool false),(.sl 0 [] .shut),(.str []),(.sl 0 [] .shut),(.sl 0 [] .shut),(.sl 0 [d3,d53] .shut)])
def d55:AV:=(.agg [(.int .i64 (.ofNat 1)),(.int .i64 (.ofNat 19)),(.int .i64 (.ofNat 0)),(.sl 0 [] .shut),(.int .i64 (.ofNat 0)),(.int .i64 (.ofNat 0)),(.bool false),(.sl 0 [] .shut),(.str []),(.sl 0 [] .shut),(.sl 0 [] .shut),(.sl 0 [d3,d53] .shut),(.int .i64 (.ofNat 0)),(.int .i64 (.ofNat 0)),(.sl 0 [] .shut),(.int .i64 (.ofNat 0)),(.int .i64 (.ofNat 0)),(.bool false),(.sl 0 [] .shut),(.str []),(.sl 0 [] .shut),(.sl 0 [] .shut),(.sl 0 [] .shut),(.sl 0 [] .shut)])
def d56:AV:=(.agg [(.int .i64 (.ofNat 9)),(.int .i64 (.ofNat 0)),(.int .i64 (.ofNat 0)),(.sl 0 [] .shut),(.int .i64 (.ofNat 0)),(.int .i64 (.ofNat 0)),(.bool false),(.sl 0 [] .shut),(.str []),(.sl 0 [] .shut),(.sl 0 [] .shut),(.sl 0 [] .shut),(.int .i64 (.ofNat 0)),(.int .i64 (.ofNat 0)),(.sl 0 [] .shut),(.int .i64 (.ofNat 0)),(.int .i64 (.ofNat 0)),(.bool false),(.sl 0 [] .shut),(.str []),(.sl 0 [] .shut),(.sl 0 [] .shut),(.sl 0 [] .shut),(.sl 0 [d55] .shut)])
def d57:AV:=(.agg [(.int .i64 (.ofNat 13)),(.int .i64 (.ofNat 46)),(.int .i64 (.ofNat 10)),(.sl 0 [] .shut),(.int .i64 (.ofNat 0)),(.int .i64 (.ofNat 0)),(.bool false),(.sl 0 [] .shut),(.str []),(.sl 0 [] .shut),(.sl 0 [] .shut),(.sl 0 [d0,d1] .shut),(.int .i64 (.ofNat 0)),(.int .i64 (.ofNat 0)),(.sl 0 [] .shut),(.int .i64 (.ofNat 0)),(.int .i64 (.ofNat 0)),(.bool false),(.sl 0 [] .shut),(.str []),(.sl 0 [] .shut),(.sl 0 [] .shut),(.sl 0 [] .shut),(.sl 0 [d56] .shut)])
def d58:AV:=(.tuple [(.int .i64 (.ofNat 3)),.niliface])
def d59:AV:=(.agg [(.int .i64 (.ofNat 5)),(.int .i64 (.ofNat 0)),(.bool false),(.sl 0 [] .shut),(.str []),(.sl 0 [d12,d13,d14,d15] .shut),(.sl 0 [] .shut)])
def d60:AV:=(.tuple [(.int .i64 (.ofNat 5)),(.int .i64 (.ofNat 2))])
def d61:AV:=(.agg [(.bool false),(.sl 0 [] .shut)])
def d62:AV:=(.agg [(.sl 0 [] .nil),(.sl 0 [] .nil),(.bool false),(.bool false),(.sl 0 [] .shut)])
def d63:AV:=(.tuple [d59,(.int .i64 (.ofNat 0)),(.int .i64 (.ofNat 0))])
def d64:AV:=(.agg [(.sl 0 [d12] .shut),(.sl 0 [] .shut),(.bool true),(.bool false),(.sl 0 [d12] .shut)])
def d65:AV:=(.agg [(.sl 0 [d13] .shut),(.sl 0 [] .shut),(.bool true),(.bool false),(.sl 0 [d12] .shut)])
def d66:AV:=(.agg [(.sl 0 [d14] .shut),(.sl 0 [] .shut),(.bool true),(.bool false),(.sl 0 [d12] .shut)])
def d67:AV:=(.agg [(.sl 0 [d15] .shut),(.sl 0 [] .shut),(.bool true),(.bool false),(.sl 0 [d12] .shut)])
def d68:AV:=(.agg [(.sl 0 [d12] .shut),(.sl 0 [] .shut),(.bool true),(.bool false),(.sl 0 [d13] .shut)])
def d69:AV:=(.agg [(.sl 0 [d13] .shut),(.sl 0 [] .shut),(.bool true),(.bool false),(.sl 0 [d13] .shut)])
def d70:AV:=(.agg [(.sl 0 [d14] .shut),(.sl 0 [] .shut),(.bool true),(.bool false),(.sl 0 [d13] .shut)])
def d71:AV:=(.agg [(.sl 0 [d15] .shut),(.sl 0 [] .shut),(.bool true),(.bool false),(.sl 0 [d13] .shut)])
def d72:AV:=(.agg [(.sl 0 [d12] .shut),(.sl 0 [] .shut),(.bool true),(.bool false),(.sl 0 [d14] .shut)])
def d73:AV:=(.agg [(.sl 0 [d13] .shut),(.sl 0 [] .shut),(.bool true),(.bool false),(.sl 0 [d14] .shut)])
def d74:AV:=(.agg [(.sl 0 [d14] .shut),(.sl 0 [] .shut),(.bool true),(.bool false),(.sl 0 [d14] .shut)])
def d75:AV:=(.agg [(.sl 0 [d15] .shut),(.sl 0 [] .shut),(.bool true),(.bool false),(.sl 0 [d14] .shut)])
def d76:AV:=(.agg [(.sl 0 [d12] .shut),(.sl 0 [] .shut),(.bool true),(.bool false),(.sl 0 [d15] .shut)])
def d77:AV:=(.agg [(.sl 0 [d13] .shut),(.sl 0 [] .shut),(.bool true),(.bool false),(.sl 0 [d15] .shut)])
def d78:AV:=(.agg [(.sl 0 [d14] .shut),(.sl 0 [] .shut),(.bool true),(.bool false),(.sl 0 [d15] .shut)])
def d79:AV:=(.agg [(.sl 0 [d15] .shut),(.sl 0 [] .shut),(.bool true),(.bool false),(.sl 0 [d15] .shut)])
def d80:AV:=(.agg [(.int .i64 (.ofNat 19)),(.int .i64 (.ofNat 0)),(.sl 0 [] .shut),(.int .i64 (.ofNat 0)),(.int .i64 (.ofNat 0)),(.bool false),(.sl 0 [] .shut),(.str []),(.sl 0 [] .shut),(.sl 0 [] .shut),(.sl 0 [d3,d0] .shut)])
def d81:AV:=(.agg [(.int .i64 (.ofNat 19)),(.int .i64 (.ofNat 0)),(.sl 0 [] .shut),(.int .i64 (.ofNat 0)),(.int .i64 (.ofNat 0)),(.bool false),(.sl 0 [] .shut),(.str []),(.sl 0 [] .shut),(.sl 0 [] .shut),(.sl 0 [d4,d8] .shut)])
def d82:AV:=(.agg [(.bool false),(.sl 0 [(.int .i64 (.ofNat 4))] .shut)])
def d83:AV:=(.agg [(.int .i64 (.ofNat 13)),(.int .i64 (.ofNat 0)),(.sl 0 [] .shut),(.int .i64 (.ofNat 0)),(.int .i64 (.ofNat 0)),(.bool false),(.sl 0 [] .shut),(.str []),(.sl 0 [] .shut),(.sl 0 [] .shut),(.sl 0 [d40] .shut)])
def d84:AV:=(.agg [(.int .i64 (.ofNat 11)),(.int .i64 (.ofNat 0)),(.sl 0 [] .shut),(.int .i64 (.ofNat 0)),(.int .i64 (.ofNat 0)),(.bool false),(.sl 0 [] .shut),(.str []),(.sl 0 [] .shut),(.sl 0 [] .shut),(.sl 0 [d81,d83] .shut)])
def d85:AV:=(.agg [(.int .i64 (.ofNat 43)),(.int .i64 (.ofNat 0)),(.sl 0 [] .shut),(.int .i64 (.ofNat 0)),(.int .i64 (.ofNat 0)),(.bool false),(.sl 0 [] .shut),(.str []),(.sl 0 [] .shut),(.sl 0 [] .shut),(.sl 0 [d84] .shut)])
def d86:AV:=(.tuple [d16,(.int .i64 (.ofNat 0)),(.int .i64 (.ofNat 0))])
def d87:AV:=(.tuple [(.bool true),(.int .i64 (.ofNat 0)),(.int .i64 (.ofNat 0))])
def d88:AV:=(.tuple [(.bool false),(.int .i64 (.ofNat 0)),(.int .i64 (.ofNat 0))])
def d89:AV:=(.agg [(.sl 0 [] .shut),(.sl 0 [] .shut),(.sl 0 [d2] .shut),(.sl 0 [] .shut),(.sl 0 [] .shut),(.int .i64 (.ofNat 19)),(.int .i64 (.ofNat 0)),(.sl 0 [] .shut),(.int .i64 (.ofNat 0)),(.int .i64 (.ofNat 0)),(.bool false),(.sl 0 [] .shut),(.str []),(.sl 0 [] .shut),(.sl 0 [] .shut),(.sl 0 [d3,d0] .shut),(.int .i64 (.ofNat 19)),(.int .i64 (.ofNat 0)),(.sl 0 [] .shut),(.int .i64 (.ofNat 0)),(.int .i64 (.ofNat 0)),(.bool false),(.sl 0 [] .shut),(.str []),(.sl 0 [] .shut),(.sl 0 [] .shut),(.sl 0 [d4,d8] .shut),(.sl 0 [] .shut),(.sl 0 [] .shut),(.sl 0 [] .shut),(.sl 0 [] .shut),(.sl 0 [] .shut),(.sl 0 [] .shut),(.sl 0 [] .shut),(.bool false)])
def d90:AV:=(.agg [(.int .i64 (.ofNat 19)),(.int .i64 (.ofNat 0)),(.sl 0 [] .shut),(.int .i64 (.ofNat 0)),(.int .i64 (.ofNat 0)),(.bool false),(.sl 0 [] .shut),(.str []),(.sl 0 [] .shut),(.sl 0 [] .shut),(.sl 0 [d3,d5] .shut)])
def d91:AV:=(.agg [(.int .i64 (.ofNat 1)),(.int .i64 (.ofNat 19)),(.int .i64 (.ofNat 0)),(.sl 0 [] .shut),(.int .i64 (.ofNat 0)),(.int .i64 (.ofNat 0)),(.bool false),(.sl 0 [] .shut),(.str []),(.sl 0 [] .shut),(.sl 0 [] .shut),(.sl 0 [d3,d5] .shut),(.int .i64 (.ofNat 0)),(.int .i64 (.ofNat 0)),(.sl 0 [] .shut),(.int .i64 (.ofNat 0)),(.int .i64 (.ofNat 0)),(.bool false),(.sl 0 [] .shut),(.str []),(.sl 0 [] .shut),(.sl 0 [] .shut),(.sl 0 [] .shut),(.sl 0 [] .shut)])
def d92:AV:=(.sl 0 [(.bool false),(.bool true),(.bool true)] .shut)
def d93:AV:=(.tuple [d92,(.int .i64 (.ofNat 0)),(.int .i64 (.ofNat 0))])
def d94:AV:=(.sl 0 [(.sl 0 [d12] .shut),(.sl 0 [d13] .shut),(.sl 0 [d14] .shut),(.sl 0 [d15] .shut),(.sl 0 [d12] .shut),(.sl 0 [d13] .shut),(.sl 0 [d14] .shut),(.sl 0 [d15] .shut)] .shut)
def d95:AV:=(.tuple [(.agg [d94,(.int .i64 (.ofNat 0))]),(.int .i64 (.ofNat 0))])
def d96:AV:=(.sl 0 [(.sl 0 [d12] .shut),(.sl 0 [d13] .shut)] .shut)
def d97:AV:=(.sl 0 [(.sl 0 [d13] .shut),(.sl 0 [d14] .shut),(.sl 0 [d15] .shut),(.sl 0 [d12] .shut)] .shut)
def d98:AV:=(.tuple [(.agg [d97,(.int .i64 (.ofNat 0))]),(.int .i64 (.ofNat 0))])
def d99:AV:=(.agg [(.sl 0 [(.sl 0 [d13] .shut)] .shut),(.int .i64 (.ofNat 0))])
def d100:AV:=(.sl 0 [(.int .i64 (.ofNat 1)),(.int .i64 (.ofNat 2)),(.int .i64 (.ofNat 3)),(.int .i64 (.ofNat 0))] .clip)
def d101:AV:=(.sl 0 [(.int .i64 (.ofNat 0)),(.int .i64 (.ofNat 1)),(.int .i64 (.ofNat 2)),(.int .i64 (.ofNat 3)),(.int .i64 (.ofNat 0))] .clip)
def d102:AV:=(.sl 0 [(.sl 0 [d12] .shut),(.sl 0 [d13] .shut),(.sl 0 [d14] .shut),(.sl 0 [d15] .shut),(.sl 0 [d12] .shut)] .shut)
def d103:AV:=(.agg [(.int .i64 (.ofNat 1)),(.int .i64 (.ofNat 0)),(.sl 0 [] .shut),(.int .i64 (.ofNat 1)),(.int .i64 (.ofNat 1)),(.bool false),(.sl 0 [] .shut),(.str []),(.sl 0 [] .shut),(.sl 0 [] .shut),(.sl 0 [] .shut)])
def d104:AV:=(.agg [(.int .i64 (.ofNat 46)),(.int .i64 (.ofNat 1)),(.sl 0 [] .shut),(.int .i64 (.ofNat 0)),(.int .i64 (.ofNat 0)),(.bool false),(.sl 0 [] .shut),(.str []),(.sl 0 [] .shut),(.sl 0 [] .shut),(.sl 0 [d5,d103] .shut)])
def d105:AV:=(.agg [(.int .i64 (.ofNat 1)),(.int .i64 (.ofNat 46)),(.int .i64 (.ofNat 1)),(.sl 0 [] .shut),(.int .i64 (.ofNat 0)),(.int .i64 (.ofNat 0)),(.bool false),(.sl 0 [] .shut),(.str []),(.sl 0 [] .shut),(.sl 0 [] .shut),(.sl 0 [d5,d103] .shut),(.int .i64 (.ofNat 0)),(.int .i64 (.ofNat 0)),(.sl 0 [] .shut),(.int .i64 (.ofNat 0)),(.int .i64 (.ofNat 0)),(.bool false),(.sl 0 [] .shut),(.str []),(.sl 0 [] .shut),(.sl 0 [] .shut),(.sl 0 [] .shut),(.sl 0 [] .shut)])
def d106:AV:=(.agg [(.int .i64 (.ofNat 0)),(.int .i64 (.ofNat 0)),(.bool false),(.sl 0 [] .shut),(.str []),(.sl 0 [] .shut),(.sl 0 [] .shut)])
def d107:AV:=(.tuple [d106,(.int .i64 (.ofNat 1)),(.int .i64 (.ofNat 0))])
def d108:AV:=(.tuple [(.sl 0 [] .shut),(.int .i64 (.ofNat 1)),(.int .i64 (.ofNat 0))])
def M0:Env:=E
def tab0:List (Nat×List AV×AV):=[(27,[],d10),
 (29,[(.int .i64 (.ofNat 0)),d11],(.agg [d16,(.int .i64 (.ofNat 0))])),
 (106,[d17],(.bool true)),
 (106,[d12],(.bool true)),
 (106,[d13],(.bool true)),
 (106,[d18],(.bool true)),
 (106,[d15],(.bool true)),
 (106,[d14],(.bool true)),
 (123,[d12,d14],(.int .i64 (.negSucc 0))),
 (123,[d13,d14],(.int .i64 (.negSucc 0))),
 (123,[d14,d14],(.int .i64 (.ofNat 0))),
 (123,[d15,d14],(.int .i64 (.ofNat 1))),
 (252,[d10,d37,(.int .i64 (.ofNat 0))],(.bool true)),
 (252,[d10,d3,(.int .i64 (.ofNat 0))],(.bool true)),
 (252,[d10,d40,(.int .i64 (.ofNat 0))],(.bool true)),
 (123,[d12,d13],(.int .i64 (.negSucc 0))),
 (372,[(.int .i64 (.ofNat 8)),d41,d42],d29),
 (372,[(.int .i64 (.ofNat 8)),d42,d44],d29),
 (123,[d14,d15],(.int .i64 (.negSucc 0))),
 (123,[d15,d12],(.int .i64 (.ofNat 1))),
 (372,[(.int .i64 (.ofNat 8)),d41,d41],d25),
 (123,[d13,d13],(.int .i64 (.ofNat 0))),
 (252,[d10,d54,(.int .i64 (.ofNat 1))],(.bool true)),
 (444,[(.str [51]),(.int .i64 (.ofNat 10)),(.int .i64 (.ofNat 64))],d58),
 (123,[d13,d12],(.int .i64 (.ofNat 1))),
 (123,[d14,d13],(.int .i64 (.ofNat 1))),
 (220,[d59,(.int .i64 (.ofNat 8000)),(.int .i64 (.ofNat 50))],d60),
 (321,[(.sl 0 [d12,d13,d14,d15] .shut)],(.sl 0 [d12,d13,d14,d15] .shut)),
 (123,[d12,d12],(.int .i64 (.ofNat 0))),
 (123,[d14,d12],(.int .i64 (.ofNat 1))),
 (123,[d15,d13],(.int .i64 (.ofNat 1))),
 (123,[d12,d15],(.int .i64 (.negSucc 0))),
 (123,[d13,d15],(.int .i64 (.negSucc 0))),
 (123,[d15,d15],(.int .i64 (.ofNat 0))),
 (372,[(.int .i64 (.ofNat 1)),d61,d41],d13),
 (372,[(.int .i64 (.ofNat 6)),d41,d82],d13),
 (372,[(.int .i64 (.ofNat 1)),d41,d41],d14),
 (372,[(.int .i64 (.ofNat 6)),d42,d82],d14),
 (372,[(.int .i64 (.ofNat 1)),d42,d41],d15),
 (372,[(.int .i64 (.ofNat 6)),d44,d82],d15),
 (372,[(.int .i64 (.ofNat 1)),d44,d41],d18),
 (372,[(.int .i64 (.ofNat 6)),d82,d82],d12),
 (20,[(.agg [d16,(.int .i64 (.ofNat 0))]),(.int .i64 (.ofNat 2))],d95),
 (69,[(.sl 0 [d12] .shut),(.sl 0 [d12] .shut)],(.bool true)),
 (115,[(.sl 0 [d13] .shut),(.sl 0 [d13] .shut)],(.int .i64 (.ofNat 0))),
 (115,[(.sl 0 [d14] .shut),(.sl 0 [d14] .shut)],(.int .i64 (.ofNat 0))),
 (115,[(.sl 0 [d15] .shut),(.sl 0 [d15] .shut)],(.int .i64 (.ofNat 0))),
 (13,[(.agg [d16,(.int .i64 (.ofNat 0))]),(.int .i64 (.ofNat 1))],d98),
 (13,[(.agg [d34,(.int .i64 (.ofNat 2))]),(.int .i64 (.ofNat 2))],(.tuple [d99,(.int .i64 (.ofNat 0))])),
 (29,[(.int .i64 (.ofNat 0)),d100],(.agg [d97,(.int .i64 (.ofNat 0))])),
 (29,[(.int .i64 (.ofNat 1)),d101],(.agg [d102,(.int .i64 (.ofNat 1))])),
 (106,[d29],(.bool true))]
def M1:Env:=M0.memo tab0
def tab1:List (Nat×List AV×AV):=[(48,[d10],(.int .i64 (.ofNat 0))),
 (252,[d10,d20,(.int .i64 (.ofNat 0))],(.bool true)),
 (252,[d10,d52,(.int .i64 (.ofNat 0))],(.bool true)),
 (416,[d61,d44],d59),
 (252,[d10,d80,(.int .i64 (.ofNat 0))],(.bool true)),
 (252,[d10,d81,(.int .i64 (.ofNat 0))],(.bool true)),
 (252,[d10,d85,(.int .i64 (.ofNat 0))],(.bool true)),
 (48,[d89],(.int .i64 (.ofNat 0))),
 (252,[d89,d80,(.int .i64 (.ofNat 0))],(.bool true)),
 (252,[d89,d81,(.int .i64 (.ofNat 0))],(.bool true)),
 (252,[d10,d90,(.int .i64 (.ofNat 0))],(.bool true)),
 (67,[(.agg [d94,(.int .i64 (.ofNat 0))])],(.agg [d16,(.int .i64 (.ofNat 0))])),
 (67,[(.agg [d34,(.int .i64 (.ofNat 2))])],(.agg [d96,(.int .i64 (.ofNat 1))])),
 (252,[d10,d104,(.int .i64 (.ofNat 0))],(.bool true))]
def M2:Env:=M1.memo tab1
def tab2:List (Nat×List AV×AV):=[(11,[d10,(.agg [d16,(.int .i64 (.ofNat 0))])],(.int .i64 (.ofNat 0))),
 (49,[d10,d23,(.int .i64 (.ofNat 0))],(.bool true)),
 (175,[d10,d20,d24],d26),
 (175,[d10,d20,d27],d26),
 (175,[d10,d20,d28],d30),
 (175,[d10,d20,d31],d26),
 (11,[d10,(.agg [d34,(.int .i64 (.ofNat 2))])],(.int .i64 (.ofNat 0))),
 (49,[d10,d38,(.int .i64 (.ofNat 0))],(.bool true)),
 (175,[d10,d37,d39],d30),
 (175,[d10,d40,d39],d26),
 (175,[d10,d37,d43],d30),
 (175,[d10,d40,d43],d26),
 (175,[d10,d37,d45],d30),
 (175,[d10,d40,d45],d26),
 (175,[d10,d37,d46],d26),
 (175,[d10,d40,d46],d26),
 (175,[d10,d37,d49],d26),
 (175,[d10,d40,d49],d30),
 (49,[d10,d57,(.int .i64 (.ofNat 0))],(.bool true)),
 (175,[d10,d52,d62],d63),
 (175,[d10,d54,d64],d30),
 (175,[d10,d54,d65],d26),
 (175,[d10,d54,d66],d26),
 (175,[d10,d54,d67],d26),
 (175,[d10,d54,d68],d26),
 (175,[d10,d54,d69],d30),
 (175,[d10,d54,d70],d26),
 (175,[d10,d54,d71],d26),
 (175,[d10,d54,d72],d26),
 (175,[d10,d54,d73],d26),
 (175,[d10,d54,d74],d30),
 (175,[d10,d54,d75],d26),
 (175,[d10,d54,d76],d26),
 (175,[d10,d54,d77],d26),
 (175,[d10,d54,d78],d26),
 (175,[d10,d54,d79],d30),
 (175,[d10,d80,d24],d30),
 (175,[d10,d81,d39],d30),
 (175,[d10,d81,d43],d30),
 (175,[d10,d81,d45],d30),
 (175,[d10,d81,d46],d30),
 (403,[d10],d86),
 (175,[d10,d81,d49],d26),
 (11,[d89,(.agg [d34,(.int .i64 (.ofNat 2))])],(.int .i64 (.ofNat 0))),
 (175,[d89,d80,d24],d30),
 (175,[d89,d81,d39],d30),
 (49,[d10,d91,(.int .i64 (.ofNat 0))],(.bool true)),
 (175,[d10,d90,d24],d26),
 (175,[d10,d90,d27],d30),
 (49,[d10,d105,(.int .i64 (.ofNat 0))],(.bool true)),
 (175,[d10,d104,d24],d107)]
def M3:Env:=M2.memo tab2
def tab3:List (Nat×List AV×AV):=[(39,[d10,(.agg [d16,(.int .i64 (.ofNat 0))]),d23],d33),
 (39,[d10,(.agg [d34,(.int .i64 (.ofNat 2))]),d23],d36),
 (39,[d10,(.agg [d16,(.int .i64 (.ofNat 0))]),d38],d48),
 (39,[d10,(.agg [d34,(.int .i64 (.ofNat 2))]),d38],d51),
 (39,[d10,(.agg [d16,(.int .i64 (.ofNat 0))]),d57],d33),
 (39,[d10,(.agg [d34,(.int .i64 (.ofNat 2))]),d57],d36),
 (175,[d10,d85,d24],d30),
 (175,[d10,d85,d27],d30),
 (175,[d10,d85,d28],d30),
 (175,[d10,d85,d31],d30),
 (38,[d89,(.agg [d34,(.int .i64 (.ofNat 2))])],d87),
 (39,[d10,(.agg [d34,(.int .i64 (.ofNat 2))]),d91],d93),
 (39,[d10,(.agg [d16,(.int .i64 (.ofNat 0))]),d105],d108)]
def M4:Env:=M3.memo tab3
def tab4:List (Nat×List AV×AV):=[(38,[d10,(.agg [d16,(.int .i64 (.ofNat 0))])],d87),
 (38,[d10,(.agg [d34,(.int .i64 (.ofNat 2))])],d88)]
def M5:Env:=M4.memo tab4
end Go.Ab.X
end
