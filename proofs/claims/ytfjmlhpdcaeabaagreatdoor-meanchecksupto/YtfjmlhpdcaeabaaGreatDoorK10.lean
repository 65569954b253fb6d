/- A part. -/
import Derived.Test.YtfjmlhpdcaeabaaGreatDoorK9
set_option linter.all false
noncomputable section
namespace Pl
mutual
theorem zS4 (ms:List Str):∀v:V,formed v=true→zDJ ms v=known ms v
 | .mk k n ng d s l m,h=>by
  rw[formed,Bool.and_eq_true,Bool.and_eq_true] at h
  obtain⟨⟨h1,h2⟩,h3⟩:=h
  rw[zDJ,known]
  by_cases hk:k=4
  ·subst hk
   rw[if_pos rfl]
   simp (decide:=true) only[node,V.kind,V.l,V.m,if_true,if_false,Bool.and_eq_true,decide_eq_true_eq] at h1
   have h4:l.length=0∧m.length=0:=⟨of_decide_eq_true h1.1.2,of_decide_eq_true h1.2⟩
   have hl:l=[]:=List.length_eq_zero_iff.1 h4.1
   have hm:m=[]:=List.length_eq_zero_iff.1 h4.2
   subst hl hm
   simp[zDA]
  ·rw[if_neg hk,zLG ms l h2,zLG ms m h3,decide_eq_true hk];simp
theorem zLG (ms:List Str):∀l:List V,formedL l=true→zFI ms l=zDA ms l
 | [],_=>rfl
 | v :: r,h=>by
  rw[formedL,Bool.and_eq_true] at h
  rw[zFI,zDA,zS4 ms v h.1,zLG ms r h.2]
end
theorem zLJ (ms:List Str)(v:V):(zCA v&&zDJ ms v)=(known ms v&&zCA v):=by
 cases h:zCA v with
 | true=>rw[zS4 ms v (by simp only[zCA,Bool.and_eq_true] at h;exact h.2)];simp
 | false=>simp
def MpOk (sp:Spec)(mp:Int→Bool)(d:Int):Prop:=∀n:Int,0≤n→n<sp.defs.length→mp n=(decide (d<0)||decide (n<d)||((sp.defs.getD n.toNat default).recu&&(sp.defs.getD d.toNat default).recu))
theorem zXD {sp:Spec}{mp:Int→Bool}{d:Int}(h:MpOk sp mp d)(n:Int):(decide (0≤n)&&decide (n<sp.defs.length)&&mp n)=callable sp d n:=by
 rw[callable]
 by_cases h0:0≤n
 ·by_cases h1:n<sp.defs.length
  ·rw[h n h0 h1]
  ·rw[decide_eq_false h1];simp
 ·rw[decide_eq_false h0];simp
set_option maxHeartbeats 4000000
theorem fits_own {sp:Spec}{mp:Int→Bool}{d:Int}(hmp:MpOk sp mp d)(sc:List Int)(e:X):zJI sp mp sc e=(own sp d sc e&&(decide (e.kind≠1)||zCA e.v)):=by
 have hmc:=zXD hmp e.n
 have hik:=zLJ sp.models e.v
 have hl0:(0:Int)≤e.l.length:=Int.natCast_nonneg _
 have hs0:(0:Int)≤e.s.length:=Int.natCast_nonneg _
 have hlen:decide ((0:Int)<e.s.length)=!decide ((e.s.length:Int)=0):=by
  by_cases h:(e.s.length:Int)=0
  ·rw[decide_eq_true h,decide_eq_false (by omega)];rfl
  ·rw[decide_eq_false h,decide_eq_true (by omega)];rfl
 have hsc:decide ((sc.length:Int)+e.n≤40)=decide (↑sc.length+e.n≤40):=rfl
 rw[zJI,hlen,hik]
 unfold own zK2 fields
 simp only[]
 by_cases h1:e.kind=1
 ·simp (decide:=true) only[h1,shp,if_true,if_false,or_false,or_true,false_or,true_or,Bool.not_true,Bool.not_false,Bool.false_and,Bool.true_and,Bool.and_true,Bool.false_or,Bool.or_false,Bool.true_or,ne_eq,decide_true,decide_false,not_true,not_false]
  clear h1
  skip
  rw[Bool.eq_iff_iff]
  all_goals (simp only[Bool.and_eq_true,Bool.or_eq_true,Bool.not_eq_true',Bool.or_eq_false_iff,Bool.not_eq_false',decide_eq_true_eq,decide_eq_false_iff_not])
  all_goals (clear hmc hik hlen hsc hmp)
  all_goals grind
 by_cases h2:e.kind=2
 ·simp (decide:=true) only[h2,shp,if_true,if_false,or_false,or_true,false_or,true_or,Bool.not_true,Bool.not_false,Bool.false_and,Bool.true_and,Bool.and_true,Bool.false_or,Bool.or_false,Bool.true_or,ne_eq,decide_true,decide_false,not_true,not_false]
  clear h2
  skip
  rw[Bool.eq_iff_iff]
  all_goals (simp only[Bool.and_eq_true,Bool.or_eq_true,Bool.not_eq_true',Bool.or_eq_false_iff,Bool.not_eq_false',decide_eq_true_eq,decide_eq_false_iff_not])
  all_goals (clear hmc hik hlen hsc hmp)
  all_goals grind
 by_cases h3:e.kind=3
 ·simp (decide:=true) only[h3,shp,if_true,if_false,or_false,or_true,false_or,true_or,Bool.not_true,Bool.not_false,Bool.false_and,Bool.true_and,Bool.and_true,Bool.false_or,Bool.or_false,Bool.true_or,ne_eq,decide_true,decide_false,not_true,not_false]
  clear h3
  skip
  rw[Bool.eq_iff_iff]
  all_goals (simp only[Bool.and_eq_true,Bool.or_eq_true,Bool.not_eq_true',Bool.or_eq_false_iff,Bool.not_eq_false',decide_eq_true_eq,decide_eq_false_iff_not])
  all_goals (clear hmc hik hlen hsc hmp)
  all_goals grind
 by_cases h4:e.kind=4
 ·simp (decide:=true) only[h4,shp,if_true,if_false,or_false,or_true,false_or,true_or,Bool.not_true,Bool.not_false,Bool.false_and,Bool.true_and,Bool.and_true,Bool.false_or,Bool.or_false,Bool.true_or,ne_eq,decide_true,decide_false,not_true,not_false]
  clear h4
  skip
  rw[Bool.eq_iff_iff]
  all_goals (simp only[Bool.and_eq_true,Bool.or_eq_true,Bool.not_eq_true',Bool.or_eq_false_iff,Bool.not_eq_false',decide_eq_true_eq,decide_eq_false_iff_not])
  all_goals (clear hmc hik hlen hsc hmp)
  all_goals grind
 by_cases h5:e.kind=5
 ·simp (decide:=true) only[h5,shp,if_true,if_false,or_false,or_true,false_or,true_or,Bool.not_true,Bool.not_false,Bool.false_and,Bool.true_and,Bool.and_true,Bool.false_or,Bool.or_false,Bool.true_or,ne_eq,decide_true,decide_false,not_true,not_false]
  clear h5
  skip
  rw[Bool.eq_iff_iff]
  all_goals (simp only[Bool.and_eq_true,Bool.or_eq_true,Bool.not_eq_true',Bool.or_eq_false_iff,Bool.not_eq_false',decide_eq_true_eq,decide_eq_false_iff_not])
  all_goals (clear hmc hik hlen hsc hmp)
  all_goals grind
 by_cases h6:e.kind=6
 ·simp (decide:=true) only[h6,shp,if_true,if_false,or_false,or_true,false_or,true_or,Bool.not_true,Bool.not_false,Bool.false_and,Bool.true_and,Bool.and_true,Bool.false_or,Bool.or_false,Bool.true_or,ne_eq,decide_true,decide_false,not_true,not_false]
  clear h6
  rw[← hmc]
  rw[Bool.eq_iff_iff]
  all_goals (simp only[Bool.and_eq_true,Bool.or_eq_true,Bool.not_eq_true',Bool.or_eq_false_iff,Bool.not_eq_false',decide_eq_true_eq,decide_eq_false_iff_not])
  all_goals (clear hmc hik hlen hsc hmp)
  all_goals grind
 by_cases h7:e.kind=7
 ·simp (decide:=true) only[h7,shp,if_true,if_false,or_false,or_true,false_or,true_or,Bool.not_true,Bool.not_false,Bool.false_and,Bool.true_and,Bool.and_true,Bool.false_or,Bool.or_false,Bool.true_or,ne_eq,decide_true,decide_false,not_true,not_false]
  clear h7
  skip
  rw[Bool.eq_iff_iff]
  all_goals (simp only[Bool.and_eq_true,Bool.or_eq_true,Bool.not_eq_true',Bool.or_eq_false_iff,Bool.not_eq_false',decide_eq_true_eq,decide_eq_false_iff_not])
  all_goals (clear hmc hik hlen hsc hmp)
  all_goals grind
 by_cases h11:e.kind=11
 ·simp (decide:=true) only[h11,shp,if_true,if_false,or_false,or_true,false_or,true_or,Bool.not_true,Bool.not_false,Bool.false_and,Bool.true_and,Bool.and_true,Bool.false_or,Bool.or_false,Bool.true_or,ne_eq,decide_true,decide_false,not_true,not_false]
  clear h11
  skip
  rw[Bool.eq_iff_iff]
  all_goals (simp only[Bool.and_eq_true,Bool.or_eq_true,Bool.not_eq_true',Bool.or_eq_false_iff,Bool.not_eq_false',decide_eq_true_eq,decide_eq_false_iff_not])
  all_goals (clear hmc hik hlen hsc hmp)
  all_goals grind
 by_cases h12:e.kind=12
 ·simp (decide:=true) only[h12,shp,if_true,if_false,or_false,or_true,false_or,true_or,Bool.not_true,Bool.not_false,Bool.false_and,Bool.true_and,Bool.and_true,Bool.false_or,Bool.or_false,Bool.true_or,ne_eq,decide_true,decide_false,not_true,not_false]
  clear h12
  skip
  rw[Bool.eq_iff_iff]
  all_goals (simp only[Bool.and_eq_true,Bool.or_eq_true,Bool.not_eq_true',Bool.or_eq_false_iff,Bool.not_eq_false',decide_eq_true_eq,decide_eq_false_iff_not])
  all_goals (clear hmc hik hlen hsc hmp)
  all_goals grind
 by_cases h13:e.kind=13
 ·simp (decide:=true) only[h13,shp,if_true,if_false,or_false,or_true,false_or,true_or,Bool.not_true,Bool.not_false,Bool.false_and,Bool.true_and,Bool.and_true,Bool.false_or,Bool.or_false,Bool.true_or,ne_eq,decide_true,decide_false,not_true,not_false]
  clear h13
  skip
  rw[Bool.eq_iff_iff]
  all_goals (simp only[Bool.and_eq_true,Bool.or_eq_true,Bool.not_eq_true',Bool.or_eq_false_iff,Bool.not_eq_false',decide_eq_true_eq,decide_eq_false_iff_not])
  all_goals (clear hmc hik hlen hsc hmp)
  all_goals grind
 by_cases h14:e.kind=14
 ·simp (decide:=true) only[h14,shp,if_true,if_false,or_false,or_true,false_or,true_or,Bool.not_true,Bool.not_false,Bool.false_and,Bool.true_and,Bool.and_true,Bool.false_or,Bool.or_false,Bool.true_or,ne_eq,decide_true,decide_false,not_true,not_false]
  clear h14
  skip
  rw[Bool.eq_iff_iff]
  all_goals (simp only[Bool.and_eq_true,Bool.or_eq_true,Bool.not_eq_true',Bool.or_eq_false_iff,Bool.not_eq_false',decide_eq_true_eq,decide_eq_false_iff_not])
  all_goals (clear hmc hik hlen hsc hmp)
  all_goals grind
 by_cases h15:e.kind=15
 ·simp (decide:=true) only[h15,shp,if_true,if_false,or_false,or_true,false_or,true_or,Bool.not_true,Bool.not_false,Bool.false_and,Bool.true_and,Bool.and_true,Bool.false_or,Bool.or_false,Bool.true_or,ne_eq,decide_true,decide_false,not_true,not_false]
  clear h15
  skip
  rw[Bool.eq_iff_iff]
  all_goals (simp only[Bool.and_eq_true,Bool.or_eq_true,Bool.not_eq_true',Bool.or_eq_false_iff,Bool.not_eq_false',decide_eq_true_eq,decide_eq_false_iff_not])
  all_goals (clear hmc hik hlen hsc hmp)
  all_goals grind
 by_cases h16:e.kind=16
 ·simp (decide:=true) only[h16,shp,if_true,if_false,or_false,or_true,false_or,true_or,Bool.not_true,Bool.not_false,Bool.false_and,Bool.true_and,Bool.and_true,Bool.false_or,Bool.or_false,Bool.true_or,ne_eq,decide_true,decide_false,not_true,not_false]
  clear h16
  skip
  rw[Bool.eq_iff_iff]
  all_goals (simp only[Bool.and_eq_true,Bool.or_eq_true,Bool.not_eq_true',Bool.or_eq_false_iff,Bool.not_eq_false',decide_eq_true_eq,decide_eq_false_iff_not])
  all_goals (clear hmc hik hlen hsc hmp)
  all_goals grind
 by_cases h17:e.kind=17
 ·simp (decide:=true) only[h17,shp,if_true,if_false,or_false,or_true,false_or,true_or,Bool.not_true,Bool.not_false,Bool.false_and,Bool.true_and,Bool.and_true,Bool.false_or,Bool.or_false,Bool.true_or,ne_eq,decide_true,decide_false,not_true,not_false]
  clear h17
  skip
  rw[Bool.eq_iff_iff]
  all_goals (simp only[Bool.and_eq_true,Bool.or_eq_true,Bool.not_eq_true',Bool.or_eq_false_iff,Bool.not_eq_false',decide_eq_true_eq,decide_eq_false_iff_not])
  all_goals (clear hmc hik hlen hsc hmp)
  all_goals grind
 by_cases h18:e.kind=18
 ·simp (decide:=true) only[h18,shp,if_true,if_false,or_false,or_true,false_or,true_or,Bool.not_true,Bool.not_false,Bool.false_and,Bool.true_and,Bool.and_true,Bool.false_or,Bool.or_false,Bool.true_or,ne_eq,decide_true,decide_false,not_true,not_false]
  clear h18
  skip
  rw[Bool.eq_iff_iff]
  all_goals (simp only[Bool.and_eq_true,Bool.or_eq_true,Bool.not_eq_true',Bool.or_eq_false_iff,Bool.not_eq_false',decide_eq_true_eq,decide_eq_false_iff_not])
  all_goals (clear hmc hik hlen hsc hmp)
  all_goals grind
 by_cases h19:e.kind=19
 ·simp (decide:=true) only[h19,shp,if_true,if_false,or_false,or_true,false_or,true_or,Bool.not_true,Bool.not_false,Bool.false_and,Bool.true_and,Bool.and_true,Bool.false_or,Bool.or_false,Bool.true_or,ne_eq,decide_true,decide_false,not_true,not_false]
  clear h19
  skip
  rw[Bool.eq_iff_iff]
  all_goals (simp only[Bool.and_eq_true,Bool.or_eq_true,Bool.not_eq_true',Bool.or_eq_false_iff,Bool.not_eq_false',decide_eq_true_eq,decide_eq_false_iff_not])
  all_goals (clear hmc hik hlen hsc hmp)
  all_goals grind
 by_cases h20:e.kind=20
 ·simp (decide:=true) only[h20,shp,if_true,if_false,or_false,or_true,false_or,true_or,Bool.not_true,Bool.not_false,Bool.false_and,Bool.true_and,Bool.and_true,Bool.false_or,Bool.or_false,Bool.true_or,ne_eq,decide_true,decide_false,not_true,not_false]
  clear h20
  skip
  rw[Bool.eq_iff_iff]
  all_goals (simp only[Bool.and_eq_true,Bool.or_eq_true,Bool.not_eq_true',Bool.or_eq_false_iff,Bool.not_eq_false',decide_eq_true_eq,decide_eq_false_iff_not])
  all_goals (clear hmc hik hlen hsc hmp)
  all_goals grind
 by_cases h21:e.kind=21
 ·simp (decide:=true) only[h21,shp,if_true,if_false,or_false,or_true,false_or,true_or,Bool.not_true,Bool.not_false,Bool.false_and,Bool.true_and,Bool.and_true,Bool.false_or,Bool.or_false,Bool.true_or,ne_eq,decide_true,decide_false,not_true,not_false]
  clear h21
  skip
  rw[Bool.eq_iff_iff]
  all_goals (simp only[Bool.and_eq_true,Bool.or_eq_true,Bool.not_eq_true',Bool.or_eq_false_iff,Bool.not_eq_false',decide_eq_true_eq,decide_eq_false_iff_not])
  all_goals (clear hmc hik hlen hsc hmp)
  all_goals grind
 by_cases h22:e.kind=22
 ·simp (decide:=true) only[h22,shp,if_true,if_false,or_false,or_true,false_or,true_or,Bool.not_true,Bool.not_false,Bool.false_and,Bool.true_and,Bool.and_true,Bool.false_or,Bool.or_false,Bool.true_or,ne_eq,decide_true,decide_false,not_true,not_false]
  clear h22
  skip
  rw[Bool.eq_iff_iff]
  all_goals (simp only[Bool.and_eq_true,Bool.or_eq_true,Bool.not_eq_true',Bool.or_eq_false_iff,Bool.not_eq_false',decide_eq_true_eq,decide_eq_false_iff_not])
  all_goals (clear hmc hik hlen hsc hmp)
  all_goals grind
 by_cases h23:e.kind=23
 ·simp (decide:=true) only[h23,shp,if_true,if_false,or_false,or_true,false_or,true_or,Bool.not_true,Bool.not_false,Bool.false_and,Bool.true_and,Bool.and_true,Bool.false_or,Bool.or_false,Bool.true_or,ne_eq,decide_true,decide_false,not_true,not_false]
  clear h23
  skip
  rw[Bool.eq_iff_iff]
  all_goals (simp only[Bool.and_eq_true,Bool.or_eq_true,Bool.not_eq_true',Bool.or_eq_false_iff,Bool.not_eq_false',decide_eq_true_eq,decide_eq_false_iff_not])
  all_goals (clear hmc hik hlen hsc hmp)
  all_goals grind
 by_cases h24:e.kind=24
 ·simp (decide:=true) only[h24,shp,if_true,if_false,or_false,or_true,false_or,true_or,Bool.not_true,Bool.not_false,Bool.false_and,Bool.true_and,Bool.and_true,Bool.false_or,Bool.or_false,Bool.true_or,ne_eq,decide_true,decide_false,not_true,not_false]
  clear h24
  skip
  rw[Bool.eq_iff_iff]
  all_goals (simp only[Bool.and_eq_true,Bool.or_eq_true,Bool.not_eq_true',Bool.or_eq_false_iff,Bool.not_eq_false',decide_eq_true_eq,decide_eq_false_iff_not])
  all_goals (clear hmc hik hlen hsc hmp)
  all_goals grind
 by_cases h25:e.kind=25
 ·simp (decide:=true) only[h25,shp,if_true,if_false,or_false,or_true,false_or,true_or,Bool.not_true,Bool.not_false,Bool.false_and,Bool.true_and,Bool.and_true,Bool.false_or,Bool.or_false,Bool.true_or,ne_eq,decide_true,decide_false,not_true,not_false]
  clear h25
  skip
  rw[Bool.eq_iff_iff]
  all_goals (simp only[Bool.and_eq_true,Bool.or_eq_true,Bool.not_eq_true',Bool.or_eq_false_iff,Bool.not_eq_false',decide_eq_true_eq,decide_eq_false_iff_not])
  all_goals (clear hmc hik hlen hsc hmp)
  all_goals grind
 by_cases h26:e.kind=26
 ·simp (decide:=true) only[h26,shp,if_true,if_false,or_false,or_true,false_or,true_or,Bool.not_true,Bool.not_false,Bool.false_and,Bool.true_and,Bool.and_true,Bool.false_or,Bool.or_false,Bool.true_or,ne_eq,decide_true,decide_false,not_true,not_false]
  clear h26
  skip
  rw[Bool.eq_iff_iff]
  all_goals (simp only[Bool.and_eq_true,Bool.or_eq_true,Bool.not_eq_true',Bool.or_eq_false_iff,Bool.not_eq_false',decide_eq_true_eq,decide_eq_false_iff_not])
  all_goals (clear hmc hik hlen hsc hmp)
  all_goals grind
 by_cases h27:e.kind=27
 ·simp (decide:=true) only[h27,shp,if_true,if_false,or_false,or_true,false_or,true_or,Bool.not_true,Bool.not_false,Bool.false_and,Bool.true_and,Bool.and_true,Bool.false_or,Bool.or_false,Bool.true_or,ne_eq,decide_true,decide_false,not_true,not_false]
  clear h27
  skip
  rw[Bool.eq_iff_iff]
  all_goals (simp only[Bool.and_eq_true,Bool.or_eq_true,Bool.not_eq_true',Bool.or_eq_false_iff,Bool.not_eq_false',decide_eq_true_eq,decide_eq_false_iff_not])
  all_goals (clear hmc hik hlen hsc hmp)
  all_goals grind
 by_cases h28:e.kind=28
 ·simp (decide:=true) only[h28,shp,if_true,if_false,or_false,or_true,false_or,true_or,Bool.not_true,Bool.not_false,Bool.false_and,Bool.true_and,Bool.and_true,Bool.false_or,Bool.or_false,Bool.true_or,ne_eq,decide_true,decide_false,not_true,not_false]
  clear h28
  skip
  rw[Bool.eq_iff_iff]
  all_goals (simp only[Bool.and_eq_true,Bool.or_eq_true,Bool.not_eq_true',Bool.or_eq_false_iff,Bool.not_eq_false',decide_eq_true_eq,decide_eq_false_iff_not])
  all_goals (clear hmc hik hlen hsc hmp)
  all_goals grind
 by_cases h29:e.kind=29
 ·simp (decide:=true) only[h29,shp,if_true,if_false,or_false,or_true,false_or,true_or,Bool.not_true,Bool.not_false,Bool.false_and,Bool.true_and,Bool.and_true,Bool.false_or,Bool.or_false,Bool.true_or,ne_eq,decide_true,decide_false,not_true,not_false]
  clear h29
  skip
  rw[Bool.eq_iff_iff]
  all_goals (simp only[Bool.and_eq_true,Bool.or_eq_true,Bool.not_eq_true',Bool.or_eq_false_iff,Bool.not_eq_false',decide_eq_true_eq,decide_eq_false_iff_not])
  all_goals (clear hmc hik hlen hsc hmp)
  all_goals grind
 by_cases h30:e.kind=30
 ·simp (decide:=true) only[h30,shp,if_true,if_false,or_false,or_true,false_or,true_or,Bool.not_true,Bool.not_false,Bool.false_and,Bool.true_and,Bool.and_true,Bool.false_or,Bool.or_false,Bool.true_or,ne_eq,decide_true,decide_false,not_true,not_false]
  clear h30
  skip
  rw[Bool.eq_iff_iff]
  all_goals (simp only[Bool.and_eq_true,Bool.or_eq_true,Bool.not_eq_true',Bool.or_eq_false_iff,Bool.not_eq_false',decide_eq_true_eq,decide_eq_false_iff_not])
  all_goals (clear hmc hik hlen hsc hmp)
  all_goals grind
 by_cases h31:e.kind=31
 ·simp (decide:=true) only[h31,shp,if_true,if_false,or_false,or_true,false_or,true_or,Bool.not_true,Bool.not_false,Bool.false_and,Bool.true_and,Bool.and_true,Bool.false_or,Bool.or_false,Bool.true_or,ne_eq,decide_true,decide_false,not_true,not_false]
  clear h31
  skip
  rw[Bool.eq_iff_iff]
  all_goals (simp only[Bool.and_eq_true,Bool.or_eq_true,Bool.not_eq_true',Bool.or_eq_false_iff,Bool.not_eq_false',decide_eq_true_eq,decide_eq_false_iff_not])
  all_goals (clear hmc hik hlen hsc hmp)
  all_goals grind
 by_cases h32:e.kind=32
 ·simp (decide:=true) only[h32,shp,if_true,if_false,or_false,or_true,false_or,true_or,Bool.not_true,Bool.not_false,Bool.false_and,Bool.true_and,Bool.and_true,Bool.false_or,Bool.or_false,Bool.true_or,ne_eq,decide_true,decide_false,not_true,not_false]
  clear h32
  skip
  rw[Bool.eq_iff_iff]
  all_goals (simp only[Bool.and_eq_true,Bool.or_eq_true,Bool.not_eq_true',Bool.or_eq_false_iff,Bool.not_eq_false',decide_eq_true_eq,decide_eq_false_iff_not])
  all_goals (clear hmc hik hlen hsc hmp)
  all_goals grind
 by_cases h33:e.kind=33
 ·simp (decide:=true) only[h33,shp,if_true,if_false,or_false,or_true,false_or,true_or,Bool.not_true,Bool.not_false,Bool.false_and,Bool.true_and,Bool.and_true,Bool.false_or,Bool.or_false,Bool.true_or,ne_eq,decide_true,decide_false,not_true,not_false]
  clear h33
  skip
  rw[Bool.eq_iff_iff]
  all_goals (simp only[Bool.and_eq_true,Bool.or_eq_true,Bool.not_eq_true',Bool.or_eq_false_iff,Bool.not_eq_false',decide_eq_true_eq,decide_eq_false_iff_not])
  all_goals (clear hmc hik hlen hsc hmp)
  all_goals grind
 by_cases h34:e.kind=34
 ·simp (decide:=true) only[h34,shp,if_true,if_false,or_false,or_true,false_or,true_or,Bool.not_true,Bool.not_false,Bool.false_and,Bool.true_and,Bool.and_true,Bool.false_or,Bool.or_false,Bool.true_or,ne_eq,decide_true,decide_false,not_true,not_false]
  clear h34
  skip
  rw[Bool.eq_iff_iff]
  all_goals (simp only[Bool.and_eq_true,Bool.or_eq_true,Bool.not_eq_true',Bool.or_eq_false_iff,Bool.not_eq_false',decide_eq_true_eq,decide_eq_false_iff_not])
  all_goals (clear hmc hik hlen hsc hmp)
  all_goals grind
 by_cases h35:e.kind=35
 ·simp (decide:=true) only[h35,shp,if_true,if_false,or_false,or_true,false_or,true_or,Bool.not_true,Bool.not_false,Bool.false_and,Bool.true_and,Bool.and_true,Bool.false_or,Bool.or_false,Bool.true_or,ne_eq,decide_true,decide_false,not_true,not_false]
  clear h35
  skip
  rw[Bool.eq_iff_iff]
  all_goals (simp only[Bool.and_eq_true,Bool.or_eq_true,Bool.not_eq_true',Bool.or_eq_false_iff,Bool.not_eq_false',decide_eq_true_eq,decide_eq_false_iff_not])
  all_goals (clear hmc hik hlen hsc hmp)
  all_goals grind
 by_cases h36:e.kind=36
 ·simp (decide:=true) only[h36,shp,if_true,if_false,or_false,or_true,false_or,true_or,Bool.not_true,Bool.not_false,Bool.false_and,Bool.true_and,Bool.and_true,Bool.false_or,Bool.or_false,Bool.true_or,ne_eq,decide_true,decide_false,not_true,not_false]
  clear h36
  skip
  rw[Bool.eq_iff_iff]
  all_goals (simp only[Bool.and_eq_true,Bool.or_eq_true,Bool.not_eq_true',Bool.or_eq_false_iff,Bool.not_eq_false',decide_eq_true_eq,decide_eq_false_iff_not])
  all_goals (clear hmc hik hlen hsc hmp)
  all_goals grind
 by_cases h37:e.kind=37
 ·simp (decide:=true) only[h37,shp,if_true,if_false,or_false,or_true,false_or,true_or,Bool.not_true,Bool.not_false,Bool.false_and,Bool.true_and,Bool.and_true,Bool.false_or,Bool.or_false,Bool.true_or,ne_eq,decide_true,decide_false,not_true,not_false]
  clear h37
  skip
  rw[Bool.eq_iff_iff]
  all_goals (simp only[Bool.and_eq_true,Bool.or_eq_true,Bool.not_eq_true',Bool.or_eq_false_iff,Bool.not_eq_false',decide_eq_true_eq,decide_eq_false_iff_not])
  all_goals (clear hmc hik hlen hsc hmp)
  all_goals grind
 by_cases h38:e.kind=38
 ·simp (decide:=true) only[h38,shp,if_true,if_false,or_false,or_true,false_or,true_or,Bool.not_true,Bool.not_false,Bool.false_and,Bool.true_and,Bool.and_true,Bool.false_or,Bool.or_false,Bool.true_or,ne_eq,decide_true,decide_false,not_true,not_false]
  clear h38
  skip
  rw[Bool.eq_iff_iff]
  all_goals (simp only[Bool.and_eq_true,Bool.or_eq_true,Bool.not_eq_true',Bool.or_eq_false_iff,Bool.not_eq_false',decide_eq_true_eq,decide_eq_false_iff_not])
  all_goals (clear hmc hik hlen hsc hmp)
  all_goals grind
 by_cases h39:e.kind=39
 ·simp (decide:=true) only[h39,shp,if_true,if_false,or_false,or_true,false_or,true_or,Bool.not_true,Bool.not_false,Bool.false_and,Bool.true_and,Bool.and_true,Bool.false_or,Bool.or_false,Bool.true_or,ne_eq,decide_true,decide_false,not_true,not_false]
  clear h39
  skip
  rw[Bool.eq_iff_iff]
  all_goals (simp only[Bool.and_eq_true,Bool.or_eq_true,Bool.not_eq_true',Bool.or_eq_false_iff,Bool.not_eq_false',decide_eq_true_eq,decide_eq_false_iff_not])
  all_goals (clear hmc hik hlen hsc hmp)
  all_goals grind
 by_cases h40:e.kind=40
 ·simp (decide:=true) only[h40,shp,if_true,if_false,or_false,or_true,false_or,true_or,Bool.not_true,Bool.not_false,Bool.false_and,Bool.true_and,Bool.and_true,Bool.false_or,Bool.or_false,Bool.true_or,ne_eq,decide_true,decide_false,not_true,not_false]
  clear h40
  skip
  rw[Bool.eq_iff_iff]
  all_goals (simp only[Bool.and_eq_true,Bool.or_eq_true,Bool.not_eq_true',Bool.or_eq_false_iff,Bool.not_eq_false',decide_eq_true_eq,decide_eq_false_iff_not])
  all_goals (clear hmc hik hlen hsc hmp)
  all_goals grind
 by_cases h41:e.kind=41
 ·simp (decide:=true) only[h41,shp,if_true,if_false,or_false,or_true,false_or,true_or,Bool.not_true,Bool.not_false,Bool.false_and,Bool.true_and,Bool.and_true,Bool.false_or,Bool.or_false,Bool.true_or,ne_eq,decide_true,decide_false,not_true,not_false]
  clear h41
  skip
  rw[Bool.eq_iff_iff]
  all_goals (simp only[Bool.and_eq_true,Bool.or_eq_true,Bool.not_eq_true',Bool.or_eq_false_iff,Bool.not_eq_false',decide_eq_true_eq,decide_eq_false_iff_not])
  all_goals (clear hmc hik hlen hsc hmp)
  all_goals grind
 by_cases h42:e.kind=42
 ·simp (decide:=true) only[h42,shp,if_true,if_false,or_false,or_true,false_or,true_or,Bool.not_true,Bool.not_false,Bool.false_and,Bool.true_and,Bool.and_true,Bool.false_or,Bool.or_false,Bool.true_or,ne_eq,decide_true,decide_false,not_true,not_false]
  clear h42
  skip
  rw[Bool.eq_iff_iff]
  all_goals (simp only[Bool.and_eq_true,Bool.or_eq_true,Bool.not_eq_true',Bool.or_eq_false_iff,Bool.not_eq_false',decide_eq_true_eq,decide_eq_false_iff_not])
  all_goals (clear hmc hik hlen hsc hmp)
  all_goals grind
 by_cases h43:e.kind=43
 ·simp (decide:=true) only[h43,shp,if_true,if_false,or_false,or_true,false_or,true_or,Bool.not_true,Bool.not_false,Bool.false_and,Bool.true_and,Bool.and_true,Bool.false_or,Bool.or_false,Bool.true_or,ne_eq,decide_true,decide_false,not_true,not_false]
  clear h43
  skip
  rw[Bool.eq_iff_iff]
  all_goals (simp only[Bool.and_eq_true,Bool.or_eq_true,Bool.not_eq_true',Bool.or_eq_false_iff,Bool.not_eq_false',decide_eq_true_eq,decide_eq_false_iff_not])
  all_goals (clear hmc hik hlen hsc hmp)
  all_goals grind
 by_cases h44:e.kind=44
 ·simp (decide:=true) only[h44,shp,if_true,if_false,or_false,or_true,false_or,true_or,Bool.not_true,Bool.not_false,Bool.false_and,Bool.true_and,Bool.and_true,Bool.false_or,Bool.or_false,Bool.true_or,ne_eq,decide_true,decide_false,not_true,not_false]
  clear h44
  skip
  rw[Bool.eq_iff_iff]
  all_goals (simp only[Bool.and_eq_true,Bool.or_eq_true,Bool.not_eq_true',Bool.or_eq_false_iff,Bool.not_eq_false',decide_eq_true_eq,decide_eq_false_iff_not])
  all_goals (clear hmc hik hlen hsc hmp)
  all_goals grind
 by_cases h45:e.kind=45
 ·simp (decide:=true) only[h45,shp,if_true,if_false,or_false,or_true,false_or,true_or,Bool.not_true,Bool.not_false,Bool.false_and,Bool.true_and,Bool.and_true,Bool.false_or,Bool.or_false,Bool.true_or,ne_eq,decide_true,decide_false,not_true,not_false]
  clear h45
  skip
  rw[Bool.eq_iff_iff]
  all_goals (simp only[Bool.and_eq_true,Bool.or_eq_true,Bool.not_eq_true',Bool.or_eq_false_iff,Bool.not_eq_false',decide_eq_true_eq,decide_eq_false_iff_not])
  all_goals (clear hmc hik hlen hsc hmp)
  all_goals grind
 by_cases h46:e.kind=46
 ·simp (decide:=true) only[h46,shp,if_true,if_false,or_false,or_true,false_or,true_or,Bool.not_true,Bool.not_false,Bool.false_and,Bool.true_and,Bool.and_true,Bool.false_or,Bool.or_false,Bool.true_or,ne_eq,decide_true,decide_false,not_true,not_false]
  clear h46
  skip
  rw[Bool.eq_iff_iff]
  all_goals (simp only[Bool.and_eq_true,Bool.or_eq_true,Bool.not_eq_true',Bool.or_eq_false_iff,Bool.not_eq_false',decide_eq_true_eq,decide_eq_false_iff_not])
  all_goals (clear hmc hik hlen hsc hmp)
  all_goals grind
 by_cases h47:e.kind=47
 ·simp (decide:=true) only[h47,shp,if_true,if_false,or_false,or_true,false_or,true_or,Bool.not_true,Bool.not_false,Bool.false_and,Bool.true_and,Bool.and_true,Bool.false_or,Bool.or_false,Bool.true_or,ne_eq,decide_true,decide_false,not_true,not_false]
  clear h47
  skip
  rw[Bool.eq_iff_iff]
  all_goals (simp only[Bool.and_eq_true,Bool.or_eq_true,Bool.not_eq_true',Bool.or_eq_false_iff,Bool.not_eq_false',decide_eq_true_eq,decide_eq_false_iff_not])
  all_goals (clear hmc hik hlen hsc hmp)
  all_goals grind
 simp (decide:=true) only[shp,h1,h2,h3,h4,h5,h6,h7,h11,h12,h13,h14,h15,h16,h17,h18,h19,h20,h21,h22,h23,h24,h25,h26,h27,h28,h29,h30,h31,h32,h33,h34,h35,h36,h37,h38,h39,h40,h41,h42,h43,h44,h45,h46,h47,if_false,or_self,Bool.not_false,Bool.true_or,Bool.not_true,Bool.false_and,Bool.and_false,decide_false]
end Pl
namespace Pl
set_option maxHeartbeats 4000000
theorem zTW {sp:Spec}{d:Int}{sc:List Int}{e:X}(h:own sp d sc e=true)(i:Nat)(hi:i<e.l.length):binds e.kind e.n i e.l.length=sees e.kind e.n i:=by
 have h9:e.kind≠9:=fun h9=>by
  rw[own,Bool.and_eq_true] at h
  have h2:=h.2
  simp (decide:=true) only[h9,if_false,or_self] at h2
 unfold binds sees
 by_cases a1:e.kind=16∨e.kind=17
 ·rw[if_pos a1,if_pos a1]
 rw[if_neg a1,if_neg a1]
 by_cases a2:e.kind=24∨e.kind=30
 ·rw[if_pos a2,if_pos a2]
  have hn:(e.l.length:Int)=e.n+1:=by
   rw[own,Bool.and_eq_true] at h
   have h2:=h.2
   rcases a2 with a2|a2<;>simp (decide:=true) only[a2,if_false,if_true,or_self,or_true,true_or,Bool.and_eq_true,decide_eq_true_eq] at h2<;>exact h2.1.2
  by_cases b:(i:Int)=e.n
  ·rw[if_pos b,if_pos (by omega)]
  ·rw[if_neg b,if_neg (by omega)]
 rw[if_neg a2,if_neg a2]
 by_cases a3:e.kind=18∨e.kind=23∨e.kind=42
 ·rw[if_pos a3,if_pos (by omega)]
  have hn:(e.l.length:Int)=2:=by
   rw[own,Bool.and_eq_true] at h
   have h2:=h.2
   rcases a3 with a3|a3|a3<;>simp (decide:=true) only[a3,if_false,if_true,or_self,or_true,true_or,or_false,false_or,Bool.and_eq_true,decide_eq_true_eq] at h2<;>exact h2.1
  by_cases b:(i:Int)=e.l.length-1
  ·rw[if_pos b];omega
  ·rw[if_neg b];omega
 rw[if_neg a3]
 by_cases a4:e.kind=34
 ·rw[if_pos (by omega),if_pos a4]
  have hn:(e.l.length:Int)=3:=by
   rw[own,Bool.and_eq_true] at h
   have h2:=h.2
   simp (decide:=true) only[a4,if_false,if_true,or_self,Bool.and_eq_true,decide_eq_true_eq] at h2
   exact h2.1
  by_cases b:i=2
  ·rw[if_pos b,if_pos (by omega)]
  ·rw[if_neg b,if_neg (by omega)]
 rw[if_neg (by omega),if_neg a4,if_neg h9]
theorem zeros0 (sc:List Int):sc++zeros 0=sc:=by simp[zeros]
theorem plain_op {e:X}(h:e.kind=8∨e.kind=9∨e.kind=10):zK2 e=(decide (¬(0:Int)<e.s.length)&&zFS e.v):=by
 have hlen:decide (¬(0:Int)<e.s.length)=decide ((e.s.length:Int)=0):=by rw[decide_eq_decide];omega
 rw[hlen]
 unfold zK2
 rcases h with h|h|h<;>simp (decide:=true) only[h,if_true,if_false,or_false,or_true,false_or,true_or,or_self]
theorem okO_form (sp:Spec)(mp:Int→Bool)(sc:List Int)(e:X)(ar:Int):okO sp mp sc e ar=(decide (¬(0:Int)<e.s.length)&&zFS e.v &&
   (if e.kind=8 then decide ((e.l.length:Int)=0)&&decide (0≤e.n)&&decide (e.n<sp.defs.length)&&mp e.n&&decide (((params sp e.n).length:Int)=ar)&&(params sp e.n).all (fun p=>decide (p=0))
    else if e.kind=9 then decide (e.n=ar)&&decide ((e.l.length:Int)=1)&&decide ((sc.length:Int)+ar≤40)&&okOL sp mp (sc++zeros ar) e.l
    else if e.kind=10 then decide ((e.l.length:Int)=0)&&decide (0≤e.n)&&decide (e.n<sc.length)&&decide (sc.getD e.n.toNat 0=ar)
    else false)):=by cases e;rfl
theorem zXJ (e:X):lits e=((decide (e.kind≠1)||zCA e.v)&&litsL e.l):=by cases e;rfl
theorem okO_aux {sp:Spec}{mp:Int→Bool}{d:Int}{sc:List Int}{ar:Int}(hmp:MpOk sp mp d)(e:X)(ih:(e.l.length:Int)=1→okOL sp mp (sc++zeros e.n) e.l=(okL sp d sc 9 e.n 0 e.l&&litsL e.l))(h1:1≤ar)(h8:ar≤8):okO sp mp sc e ar=(ok sp d sc e ar&&lits e):=by
 have hmc:=zXD hmp e.n
 have hpo:=plain_op (e:=e)
 rw[okO_form,ok_eq,zXJ,zH1,if_neg (show ¬ar=0 by omega),oper,decide_eq_true h1,decide_eq_true h8]
 have hl0:(e.l.length:Int)=0→e.l=[]:=fun h=>List.length_eq_zero_iff.1 (by omega)
 by_cases a1:e.kind=8
 ·rw[hpo (.inl a1),← hmc]
  simp (decide:=true) only[a1,if_true,if_false]
  by_cases hl:(e.l.length:Int)=0
  ·rw[hl0 hl]
   simp (decide:=true) only[okL,litsL,Bool.and_true,decide_true,Bool.true_or,Bool.and_assoc]
  ·rw[decide_eq_false hl];simp only[Bool.false_and,Bool.and_false]
 by_cases a2:e.kind=9
 ·rw[hpo (.inr (.inl a2))]
  simp (decide:=true) only[a2,if_true,if_false]
  by_cases hl:(e.l.length:Int)=1
  ·by_cases hn:e.n=ar
   ·rw[hn] at ih ⊢
    rw[ih hl,decide_eq_true hl]
    simp (decide:=true) only[Bool.and_true,decide_true,Bool.true_or,Bool.true_and,Bool.and_assoc]
   ·rw[decide_eq_false hn];simp only[Bool.false_and,Bool.and_false]
  ·rw[decide_eq_false hl];simp only[Bool.false_and,Bool.and_false]
 by_cases a3:e.kind=10
 ·rw[hpo (.inr (.inr a3))]
  simp (decide:=true) only[a3,if_true,if_false]
  by_cases hl:(e.l.length:Int)=0
  ·rw[hl0 hl]
   simp (decide:=true) only[okL,litsL,Bool.and_true,decide_true,Bool.true_or,Bool.and_assoc]
  ·rw[decide_eq_false hl];simp only[Bool.false_and,Bool.and_false]
 simp only[a1,a2,a3,if_false,Bool.and_false,Bool.false_and]
mutual
theorem zMX {sp:Spec}{mp:Int→Bool}{d:Int}(hmp:MpOk sp mp d)(hp8:∀(n:Int) (i:Nat),0≤(params sp n).getD i 0∧(params sp n).getD i 0≤8):∀(sc:List Int) (e:X),okP sp mp sc e=(ok sp d sc e 0&&lits e)
 | sc,.mk k n s v l=>by
  have ih:=zW7 hmp hp8 sc k n l.length 0 l
  rw[okP,ok,lits,fits_own hmp,show zH1 sp d sc (.mk k n s v l) 0=own sp d sc (.mk k n s v l) from rfl]
  have hsb:=fun h=>zTW (sp:=sp) (d:=d) (sc:=sc) (e:=.mk k n s v l) h
  cases ho:own sp d sc (.mk k n s v l) with
  | false=>simp only[Bool.false_and]
  | true=>
   rw[ih (fun i' _ hi=>hsb ho i' (by show i'<l.length;omega))]
   show _=(true&&okL sp d sc k n 0 l&&((decide (k≠1)||zCA v)&&litsL l))
   show(true&&(decide (k≠1)||zCA v)&&(okL sp d sc k n 0 l&&litsL l))=_
   generalize okL sp d sc k n 0 l=a
   generalize (decide (k≠1)||zCA v)=b
   generalize litsL l=c
   cases a<;>cases b<;>cases c<;>rfl
theorem zW7 {sp:Spec}{mp:Int→Bool}{d:Int}(hmp:MpOk sp mp d)(hp8:∀(n:Int) (i:Nat),0≤(params sp n).getD i 0∧(params sp n).getD i 0≤8):∀(sc:List Int) (k n:Int) (len i:Nat) (l:List X),(∀i':Nat,i≤i'→i'<i+l.length→binds k n i' len=sees k n i')→okPL sp mp sc k n len i l=(okL sp d sc k n i l&&litsL l)
 | _,_,_,_,_,[],_=>rfl
 | sc,k,n,len,i,x :: r,hb=>by
  have ir:=zW7 hmp hp8 sc k n len (i+1) r (fun i' h1 h2=>hb i' (by omega) (by rw[List.length_cons];omega))
  rw[okPL,okL,litsL,ir]
  have hbi:=hb i (Nat.le_refl _) (by rw[List.length_cons];omega)
  have hx:(if k=6∧0<(params sp n).getD i 0 then okO sp mp sc x ((params sp n).getD i 0) else okP sp mp (sc++zeros (binds k n i len)) x)=(ok sp d (sc++zeros (sees k n i)) x (arity sp k n i)&&lits x):=by
   by_cases h6:k=6
   ·subst h6
    have hs0:sees 6 n i=0:=by simp (decide:=true) only[sees,if_false,or_self]
    have ha:arity sp 6 n i=(params sp n).getD i 0:=by simp only[arity,if_true]
    rw[hs0,ha,zeros0]
    by_cases hp:0<(params sp n).getD i 0
    ·rw[if_pos ⟨rfl,hp⟩]
     exact okO_eq hmp hp8 sc x _ (by omega) (hp8 n i).2
    ·rw[if_neg (fun h=>hp h.2),hbi,hs0,zeros0,show(params sp n).getD i 0=0 from by have:=(hp8 n i).1;omega]
     exact zMX hmp hp8 sc x
   ·rw[if_neg (fun h=>h6 h.1),hbi,show arity sp k n i=0 from if_neg h6]
    exact zMX hmp hp8 _ x
  rw[hx]
  generalize ok sp d (sc++zeros (sees k n i)) x (arity sp k n i)=a
  generalize okL sp d sc k n (i+1) r=b
  generalize lits x=c
  generalize litsL r=f
  cases a<;>cases b<;>cases c<;>cases f<;>rfl
theorem okO_eq {sp:Spec}{mp:Int→Bool}{d:Int}(hmp:MpOk sp mp d)(hp8:∀(n:Int) (i:Nat),0≤(params sp n).getD i 0∧(params sp n).getD i 0≤8):∀(sc:List Int) (e:X)(ar:Int),1≤ar→ar≤8→okO sp mp sc e ar=(ok sp d sc e ar&&lits e)
 | sc,.mk k n s v l,ar,h1,h8=>okO_aux hmp (.mk k n s v l) (fun hl=>okOL_eq hmp hp8 sc n l hl) h1 h8
theorem okOL_eq {sp:Spec}{mp:Int→Bool}{d:Int}(hmp:MpOk sp mp d)(hp8:∀(n:Int) (i:Nat),0≤(params sp n).getD i 0∧(params sp n).getD i 0≤8):∀(sc:List Int) (n:Int) (l:List X),(l.length:Int)=1→okOL sp mp (sc++zeros n) l=(okL sp d sc 9 n 0 l&&litsL l)
 | sc,n,[],h=>by simp at h
 | sc,n,x :: r,h=>by
  have hr:r=[]:=by cases r with|nil=>rfl|cons a r=>simp at h;omega
  subst hr
  have ix:=zMX hmp hp8 (sc++zeros n) x
  have hs0:sees 9 n 0=n:=by simp (decide:=true) only[sees,if_false,if_true,or_self]
  have ha:arity sp 9 n 0=0:=by simp (decide:=true) only[arity,if_false]
  rw[okOL,okL,okL,litsL,litsL,hs0,ha,ix,Bool.and_true,Bool.and_true]
end
end Pl
namespace Go.Ab.X
open Go Go.Ab Go.Proofs Pl
set_option maxHeartbeats 4000000
theorem zXC (sp:Pl.Spec):MpOk sp (fun _=>true) (-1):=fun n _ _=>by simp
theorem mp_def {sp:Pl.Spec}{i:Nat}{d:Pl.Def}(hd:sp.defs.getD i default=d):MpOk sp (mayP sp i d) i:=fun n _ _=>by
 rw[mayP,Int.toNat_natCast,hd,decide_eq_false (show ¬(i:Int)<0 by omega),Bool.false_or,Bool.and_comm (x:=d.recu)]
theorem zWY {sp:Pl.Spec}(h:∀n p,p∈params sp n→0≤p∧p≤8)(n:Int)(i:Nat):0≤(params sp n).getD i 0∧(params sp n).getD i 0≤8:=by
 rw[List.getD_eq_getElem?_getD]
 cases hx:(params sp n)[i]? with
 | none=>simp
 | some p=>exact h n p (List.mem_of_getElem? hx)
theorem zL6 {sp:Pl.Spec}(h8:∀n p,p∈params sp n→0≤p∧p≤8):∀(l:List Pl.Def) (i:Nat) (nd:Int),sp.defs.drop i=l→nd≤3000→
  ((zCJ sp i l nd).1=true↔(bodies sp i l=true∧(l.all fun d=>lits d.body)=true∧nd+cntXs (l.map (·.body))≤3000∧(l.all fun d=>decide (depX d.body≤100))=true))∧((zCJ sp i l nd).1=true→(zCJ sp i l nd).2=nd+cntXs (l.map (·.body)))
 | [],i,nd,_,h1=>⟨by simp[zCJ,bodies,cntXs,h1],fun _=>by simp[zCJ,cntXs]⟩
 | d :: r,i,nd,hl,h1=>by
  have hd:sp.defs.getD i default=d:=by
   rw[List.getD_eq_getElem?_getD]
   have:(sp.defs.drop i)[0]?=some d:=by rw[hl];rfl
   rw[List.getElem?_drop] at this
   rw[show i+0=i from rfl] at this
   rw[this];rfl
  have hr:sp.defs.drop (i+1)=r:=by
   have:=congrArg List.tail hl
   rw[List.tail_drop] at this
   exact this
  have ih:=fun nd h1=>zL6 h8 r (i+1) nd hr h1
  have hL:=zDK sp (mayP sp i d) d.params d.body 1 nd
  have ho:=zMX (mp_def hd) (zWY h8) d.params d.body
  rw[ho] at hL
  rw[zCJ,bodies,List.all_cons,List.all_cons,List.map_cons,cntXs]
  generalize zD8 sp (mayP sp i d) d.params d.body 1 nd=st at *
  obtain⟨b,nd1⟩:=st
  obtain⟨g1,g2⟩:=hL
  cases b with
  | true=>
   have e:=g2 rfl
   dsimp only at e ⊢
   subst e
   obtain⟨o1,o2,o3⟩:=g1.1 rfl
   obtain⟨i1,i2⟩:=ih (nd+cntX d.body) o2
   rw[Bool.and_eq_true] at o1
   rw[o1.1,o1.2,decide_eq_true (show depX d.body≤100 by omega)]
   simp only[Bool.true_and]
   refine⟨?_,fun h=>by rw[i2 h];omega⟩
   rw[i1]
   constructor<;>(rintro⟨a1,a2,a3,a4⟩;exact⟨a1,a2,by omega,a4⟩)
  | false=>
   refine⟨⟨(fun h=>nomatch h),?_⟩,(fun h=>nomatch h)⟩
   rintro⟨a1,a2,a3,a4⟩
   rw[Bool.and_eq_true] at a1 a2 a4
   have:=g1.2 ⟨by rw[a1.1,a2.1];rfl,by omega,by have:=of_decide_eq_true a4.1;omega⟩
   cases this
theorem zSK {sp:Pl.Spec}(h8:∀n p,p∈params sp n→0≤p∧p≤8):∀(l:List X) (nd:Int),nd≤3000→
  ((anyS (zNU sp) nd l).1=false↔((l.all fun e=>ok sp (-1) [] e 0)=true∧(l.all lits)=true∧nd+cntXs l≤3000∧(l.all fun e=>decide (depX e≤100))=true))
 | [],nd,h1=>by simp[anyS,cntXs,h1]
 | e :: r,nd,h1=>by
  have ih:=fun nd h1=>zSK h8 r nd h1
  have hL:=zDK sp (fun _=>true) [] e 1 nd
  have ho:=zMX (zXC sp) (zWY h8) [] e
  rw[ho] at hL
  rw[anyS,zNU,List.all_cons,List.all_cons,List.all_cons,cntXs]
  generalize zD8 sp (fun _=>true) [] e 1 nd=st at *
  obtain⟨b,nd1⟩:=st
  obtain⟨g1,g2⟩:=hL
  cases b with
  | true=>
   have e:=g2 rfl
   dsimp only at e ⊢
   subst e
   obtain⟨o1,o2,o3⟩:=g1.1 rfl
   have i1:=ih (nd+cntX e) o2
   rw[Bool.and_eq_true] at o1
   rw[o1.1,o1.2,decide_eq_true (show depX e≤100 by omega),if_neg (fun h=>nomatch h)]
   simp only[Bool.true_and]
   rw[i1]
   constructor<;>(rintro⟨a1,a2,a3,a4⟩;exact⟨a1,a2,by omega,a4⟩)
  | false=>
   rw[if_pos (by rfl)]
   refine⟨(fun h=>nomatch h),?_⟩
   rintro⟨a1,a2,a3,a4⟩
   rw[Bool.and_eq_true] at a1 a2 a4
   have:=g1.2 ⟨by rw[a1.1,a2.1];rfl,by omega,by have:=of_decide_eq_true a4.1;omega⟩
   cases this
theorem zLU (sp:Pl.Spec)(f:X→Bool):(zG6 sp).all f=(Pl.exprs sp).all f:=by
 rw[zG6,Pl.exprs]
 simp only[List.all_append,List.flatten_cons,List.flatten_nil,List.append_nil,List.all_cons,List.all_nil,Bool.and_true]
 generalize sp.assume.all f=a1
 generalize f sp.init=a2
 generalize f sp.next=a3
 generalize sp.cons.all f=a4
 generalize sp.acons.all f=a5
 generalize sp.view.all f=a6
 generalize (sp.vars.map (·.typ)).all f=a7
 generalize (sp.fair.flatMap fun x=>[x.a,x.sub]).all f=a8
 generalize (sp.invs.map (·.e)).all f=a9
 rw[Bool.eq_iff_iff]
 simp only[Bool.and_eq_true]
 constructor
 ·rintro⟨⟨⟨⟨b1,⟨b2,b3⟩,b4,b5,b6⟩,b7⟩,b8⟩,b9⟩;simp_all
 ·intro h;simp_all
theorem zYC (sp:Pl.Spec):cntXs (zG6 sp)=cntXs (Pl.exprs sp):=by
 rw[zG6,Pl.exprs]
 simp only[cntXs_append,List.flatten_cons,List.flatten_nil,List.append_nil,cntXs]
 omega
theorem zU5 (sp:Pl.Spec):(!(sp.consts.any fun c=>!(zCA c.v&&zDJ sp.models c.v)))=((sp.consts.all fun c=>zCA c.v)&&zDA sp.models (sp.consts.map (·.v))):=by
 generalize sp.consts=l
 induction l with
 | nil=>rfl
 | cons c r ih=>
  rw[List.any_cons,Bool.not_or,ih,Bool.not_not,zLJ,List.all_cons,List.map_cons,zDA]
  generalize zCA c.v=a
  generalize known sp.models c.v=b
  generalize (r.all fun c=>zCA c.v)=f
  generalize zDA sp.models (r.map (·.v))=g
  cases a<;>cases b<;>cases f<;>cases g<;>rfl
theorem max_le6 (a b c d e f:Int):(!decide ((40:Int)<max (max (max (max (max a b) c) d) e) f))=(decide (a≤40)&&decide (b≤40)&&decide (c≤40)&&decide (d≤40)&&decide (e≤40)&&decide (f≤40)):=by
 rw[Bool.eq_iff_iff]
 simp only[Bool.not_eq_true',decide_eq_false_iff_not,Bool.and_eq_true,decide_eq_true_eq]
 omega
theorem head_law (sp:Pl.Spec):(zLP sp&&defHeads [] sp.defs)=(zM6 sp&&(sp.consts.all fun c=>zCA c.v)):=by
 rw[zLP,zU5,max_le6,zM6]
 simp only[zA5 (sp.models.length),zA5 (sp.consts.length),zA5 1 (sp.vars.length),zA5 (sp.vars.length),zA5 (sp.defs.length),zA5 (sp.view.length)]
 generalize decide ((40:Int)<sp.models.length)=b1
 generalize decide ((20:Int)<sp.consts.length)=b2
 generalize decide ((sp.vars.length:Int)<1)=b3
 generalize decide ((16:Int)<sp.vars.length)=b4
 generalize decide ((100:Int)<sp.defs.length)=b5
 generalize decide ((sp.assume.length:Int)≤40)=b6
 generalize decide ((sp.fair.length:Int)≤40)=b7
 generalize decide ((sp.invs.length:Int)≤40)=b8
 generalize decide ((sp.cons.length:Int)≤40)=b9
 generalize decide ((sp.acons.length:Int)≤40)=b10
 generalize decide ((sp.props.length:Int)≤40)=b11
 generalize decide ((1:Int)<sp.view.length)=b12
 generalize Pl.distinct [] sp.models=c1
 generalize zDY sp=c2
 generalize zDA sp.models (sp.consts.map (·.v))=c3
 generalize Pl.distinct [] (sp.consts.map (·.name))=c4
 generalize Pl.distinct [] (sp.vars.map (·.name))=c5
 generalize Pl.distinct [] (sp.invs.map (·.name))=c6
 generalize Pl.distinct [] (sp.props.map (·.name))=c7
 generalize defHeads [] sp.defs=c8
 generalize (sp.consts.all fun c=>zCA c.v)=c9
 rw[Bool.eq_iff_iff]
 simp only[Bool.and_eq_true,Bool.not_eq_true',Bool.or_eq_false_iff,Bool.not_eq_false']
 constructor
 ·intro h;simp_all
 ·intro h;simp_all
theorem zSN (sp:Pl.Spec):zJC sp=zHR sp:=by
 have hh:=head_law sp
 rw[zJC,zHR,zC2]
 by_cases hd:defHeads [] sp.defs=true
 ·have h8:=zKK hd
  have hb:=zL6 h8 sp.defs 0 0 rfl (by omega)
  rw[hd,Bool.and_true] at hh
  rw[hh,zFK,if_pos hd]
  generalize zCJ sp 0 sp.defs 0=bd at *
  obtain⟨b,nd⟩:=bd
  obtain⟨b1,b2⟩:=hb
  rw[Bool.eq_iff_iff]
  cases b with
  | true=>
   have e:=b2 rfl
   obtain⟨o1,o2,o3,o4⟩:=b1.1 rfl
   dsimp only at e
   have hs:=zSK h8 (zG6 sp) nd (by omega)
   rw[zLU,zLU,zLU,zYC] at hs
   simp only[Bool.and_eq_true,Bool.not_eq_true',o1,o2,o4,true_and,and_true]
   rw[hs,decide_eq_true_eq]
   constructor
   ·rintro⟨⟨a1,a2⟩,a3,a4,a5,a6⟩;exact⟨⟨⟨⟨⟨a1,a3⟩,a6⟩,by omega⟩,a2⟩,a4⟩
   ·rintro⟨⟨⟨⟨⟨a1,a3⟩,a6⟩,a5⟩,a2⟩,a4⟩;exact⟨⟨a1,a2⟩,a3,a4,by omega,a6⟩
  | false=>
   simp only[Bool.and_eq_true,Bool.false_eq_true,and_false,false_and,false_iff]
   rintro⟨⟨⟨⟨⟨⟨⟨⟨a1,a2⟩,a3⟩,a4⟩,a5⟩,a6⟩,a7⟩,a8⟩,a9⟩
   have:=b1.2 ⟨a2,a8,by have:=of_decide_eq_true a6;omega,a4⟩
   cases this
 ·have hd':defHeads [] sp.defs=false:=by cases h:defHeads [] sp.defs with|true=>exact absurd h hd|false=>rfl
  rw[zFK,if_neg hd]
  rw[hd',Bool.and_false] at hh
  simp only[Bool.and_false,Bool.false_and]
  have:zM6 sp=false:=by rw[zM6,hd',Bool.and_false]
  rw[this]
  simp only[Bool.false_and]
theorem zOX {sp:Pl.Spec}(hz:Sz sp)(h:zJC sp=true):SpOk sp:=by
 rw[zJC,Bool.and_eq_true,Bool.and_eq_true] at h
 have hd:defHeads [] sp.defs=true:=by
  cases hh:defHeads [] sp.defs with
  | true=>rfl
  | false=>have:=h.1.2;rw[zFK,hh] at this;cases this
 exact⟨hz.ml,hz.dl,hz.vl,hz.cl,hz.pl,zKK hd⟩
theorem zU1 {sp:Pl.Spec}(h8:∀n p,p∈params sp n→0≤p∧p≤8)(e:X)(n:Int):zLV sp e n=zNC sp e n:=by
 have hL:=zDK sp (fun _=>true) (zeros n) e 1 0
 rw[zMX (zXC sp) (zWY h8) (zeros n) e] at hL
 rw[zLV,zNC,Bool.eq_iff_iff,hL.1]
 simp only[Bool.and_eq_true,decide_eq_true_eq]
 constructor
 ·rintro⟨⟨a,b⟩,c,d⟩;exact⟨⟨⟨a,by omega⟩,by omega⟩,b⟩
 ·rintro⟨⟨⟨a,b⟩,c⟩,d⟩;exact⟨⟨a,d⟩,by omega,by omega⟩
theorem zYY (sp:Pl.Spec):zJ0 sp=Pl.check sp:=by rw[zJ0,Pl.check,zSN]
theorem zOJ {sp:Pl.Spec}(hz:Sz sp)(e:X)(n:Int):zHN sp e n=Pl.checkExpr sp e n:=by
 rw[zHN,Pl.checkExpr,← zSN]
 cases h:zJC sp with
 | false=>rfl
 | true=>
  rw[zU1 (zOX hz h).p8]
  cases zNC sp e n<;>rfl
end Go.Ab.X
namespace Pl
mutual
def valM:V→Int→Int→Bool×Int
 | .mk _ _ _ d s l m,deep,left=>
  if left-(1+(d.length:Int)+(s.length:Int) / 20)<0∨60<deep then(false,left-(1+(d.length:Int)+(s.length:Int) / 20)) else
  match valsM l (deep+1) (left-(1+(d.length:Int)+(s.length:Int) / 20)) with
  | (true,a)=>valsM m (deep+1) a
  | (false,a)=>(false,a)
def valsM:List V→Int→Int→Bool×Int
 | [],_,left=>(true,left)
 | v :: r,deep,left=>match valM v deep left with
  | (true,a)=>valsM r deep a
  | (false,a)=>(false,a)
end
theorem valM_eq (v:V)(deep left:Int):valM v deep left=if left-(1+(v.d.length:Int)+(v.s.length:Int) / 20)<0∨60<deep then(false,left-(1+(v.d.length:Int)+(v.s.length:Int) / 20)) else
  match valsM v.l (deep+1) (left-(1+(v.d.length:Int)+(v.s.length:Int) / 20)) with
  | (true,a)=>valsM v.m (deep+1) a
  | (false,a)=>(false,a):=by cases v;rfl
mutual
theorem valM_le:∀(v:V)(deep left:Int),(valM v deep left).1=true→0≤(valM v deep left).2∧(valM v deep left).2≤left
 | .mk k n ng d s l m,deep,left,h=>by
  have i1:=valsM_le l (deep+1) (left-(1+(d.length:Int)+(s.length:Int) / 20))
  have i2:=fun a=>valsM_le m (deep+1) a
  have hd:0≤(s.length:Int) / 20:=by omega
  unfold valM at h ⊢
  split at h
  ·cases h
  ·rename_i hn
   rw[if_neg hn]
   generalize valsM l (deep+1) (left-(1+(d.length:Int)+(s.length:Int) / 20))=st at *
   obtain⟨b,a⟩:=st
   cases b with
   | true=>
    have j1:=i1 rfl (by omega)
    dsimp only at h j1 ⊢
    have j2:=i2 a h (by omega)
    omega
   | false=>cases h
theorem valsM_le:∀(l:List V) (deep left:Int),(valsM l deep left).1=true→0≤left→0≤(valsM l deep left).2∧(valsM l deep left).2≤left
 | [],_,left,_,h0=>⟨h0,Int.le_refl _⟩
 | v :: r,deep,left,h,h0=>by
  have i1:=valM_le v deep left
  have i2:=fun a=>valsM_le r deep a
  unfold valsM at h ⊢
  generalize valM v deep left=st at *
  obtain⟨b,a⟩:=st
  cases b with
  | true=>
   have j1:=i1 rfl
   dsimp only at h j1 ⊢
   have j2:=i2 a h (by omega)
   omega
  | false=>cases h
end
theorem zOM (deep:Int):∀(l:List V) (left:Int),anyS (fun a x=>(!(valM x deep a).1,(valM x deep a).2)) left l=(!(valsM l deep left).1,(valsM l deep left).2)
 | [],left=>rfl
 | v :: r,left=>by
  rw[anyS,valsM]
  generalize valM v deep left=st
  obtain⟨b,a⟩:=st
  cases b with
  | true=>rw[if_neg (fun h=>nomatch h)];exact zOM deep r a
  | false=>rfl
mutual
def nodeM:X→Int→Int→Bool×Int
 | .mk _ _ s v l,deep,left=>
  if left-(1+(s.length:Int))<0∨150<deep then(false,left-(1+(s.length:Int))) else
  match valM v 1 (left-(1+(s.length:Int))) with
  | (true,a)=>exprsM l (deep+1) a
  | (false,a)=>(false,a)
def exprsM:List X→Int→Int→Bool×Int
 | [],_,left=>(true,left)
 | x :: r,deep,left=>match nodeM x deep left with
  | (true,a)=>exprsM r deep a
  | (false,a)=>(false,a)
end
theorem nodeM_eq (e:X)(deep left:Int):nodeM e deep left=if left-(1+(e.s.length:Int))<0∨150<deep then(false,left-(1+(e.s.length:Int))) else
  match valM e.v 1 (left-(1+(e.s.length:Int))) with
  | (true,a)=>exprsM e.l (deep+1) a
  | (false,a)=>(false,a):=by cases e;rfl
mutual
theorem nodeM_le:∀(e:X)(deep left:Int),(nodeM e deep left).1=true→0≤(nodeM e deep left).2∧(nodeM e deep left).2≤left
 | .mk k n s v l,deep,left,h=>by
  have i1:=valM_le v 1 (left-(1+(s.length:Int)))
  have i2:=fun a=>exprsM_le l (deep+1) a
  unfold nodeM at h ⊢
  split at h
  ·cases h
  ·rename_i hn
   rw[if_neg hn]
   generalize valM v 1 (left-(1+(s.length:Int)))=st at *
   obtain⟨b,a⟩:=st
   cases b with
   | true=>
    have j1:=i1 rfl
    dsimp only at h j1 ⊢
    have j2:=i2 a h (by omega)
    omega
   | false=>cases h
theorem exprsM_le:∀(l:List X) (deep left:Int),(exprsM l deep left).1=true→0≤left→0≤(exprsM l deep left).2∧(exprsM l deep left).2≤left
 | [],_,left,_,h0=>⟨h0,Int.le_refl _⟩
 | x :: r,deep,left,h,h0=>by
  have i1:=nodeM_le x deep left
  have i2:=fun a=>exprsM_le r deep a
  unfold exprsM at h ⊢
  generalize nodeM x deep left=st at *
  obtain⟨b,a⟩:=st
  cases b with
  | true=>
   have j1:=i1 rfl
   dsimp only at h j1 ⊢
   have j2:=i2 a h (by omega)
   omega
  | false=>cases h
end
theorem zHJ (l:List X)(deep left:Int)(h:(exprsM l deep left).1=true):min 0 left≤(exprsM l deep left).2∧(exprsM l deep left).2≤max left 0:=by
 cases l with
 | nil=>simp only[exprsM];omega
 | cons x r=>
  have i1:=nodeM_le x deep left
  unfold exprsM at h ⊢
  generalize nodeM x deep left=st at *
  obtain⟨b,a⟩:=st
  cases b with
  | true=>
   have j1:=i1 rfl
   dsimp only at h j1 ⊢
   have j2:=exprsM_le r deep a h (by omega)
   omega
  | false=>cases h
end Pl
namespace Go.Ab
theorem b_quo20 {E:Env}{t:TypeId}{c:Bool}{k:IntKind}{a:Int}{s:Sto}:binA E .quo t c (.int k a) (.int k 20) s=some (.int k (wr k (a.tdiv 20))):=by
 simp only[binA,isShift,zC1,cond_true,cond_false,arith,zHU]
 rw[decide_eq_false (by decide)];rfl
attribute [go_sem] b_quo20
end Go.Ab
namespace Go.Ab.X
open Go Go.Ab Go.Proofs Pl
set_option maxRecDepth 100000
set_option maxHeartbeats 4000000
theorem c151I {α σ:Type}{h:α→AV}{l:List α}{fv:AV}{p:σ→α→Bool×σ}{G:σ→Nat→Box}{a:σ}{m:Nat}{u:List (Nat×Nat)}(I:σ→Prop)(hI:∀x∈l,∀a,I a→(p a x).1=false→I (p a x).2)(hIa:I a)(hl:l.length<4611686018427387904)(hu:zAS m u=true)(hu2:zAK m u=u)
  (hsz:∀x,llen (cellsOf (h x))=7) (hld:∀x,pick1 (E1.types 32) (cellsOf (h x)) 0=some (h x)) (hfv:∀a,zA0 (S m (G a) u) fv=some (fv,S m (G a) u))
  (hp:∀x∈l,∀a,I a→∀Q:CR→Sto→Prop,Q (.ret (.bool (p a x).1)) (S m (G (p a x).2) u)→CV E1 fv [h x] (S m (G a) u) Q) {Q:CR→Sto→Prop}
  (hq:∀i:Int,(0≤i↔(anyS p a l).1=true)→Q (.ret (.int .i64 i)) (S m (G (anyS p a l).2) u)):C E1 151 [.sl 0 (l.map h) .shut,fv] (S m (G a) u) Q:=by
 have hfv:=hfv a
 refine zAG (md:=⟨false,false,false,false⟩) (fn:=Tryz.f151) (n:=19) (rs:=[.tmp 4]) rfl rfl rfl rfl rfl rfl rfl (by simp only[go_sem, *];try rfl) (by rfl) ?_
 repeat' (first|simp (disch:=first|assumption|omega) only[go_sem, *]|((first|apply gw_m|apply gw_q);focus (intro hb;(try simp only[nbw] at hb);simp (disch:=first|assumption|omega) only[go_sem, *];rfl))|((first|refine zAB ?_ ?_|refine zAA ?_ ?_|refine sp_C ?_ ?_|refine sp_G ?_ ?_)<;>intro _))
 refine zAL (ι:=Nat×σ) (fun i=>[(8,.int .i64 i.1),(7,.int .i64 l.length),(1,fv),(0,.sl 0 (l.map h) .shut)]) (fun i=>S m (G i.2) u) (fun i=>i.1≤l.length∧I i.2∧anyS p i.2 (l.drop i.1)=anyS p a l) (fun i=>l.length-i.1) ?_ (0,a) ⟨Nat.zero_le _,hIa,rfl⟩ ⟨rfl,rfl,rfl,rfl,trivial⟩ rfl
 rintro⟨i,a1⟩ b ⟨hi,hI1,he⟩ hrec
 simp only at hi hI1 he
 rcases Nat.lt_or_ge i l.length with hlt|hge
 ·have hx:l[i]?=some l[i]:=List.getElem?_eq_getElem hlt
  have hmem:l[i]∈l:=List.getElem_mem hlt
  rw[List.drop_eq_getElem_cons hlt,anyS] at he
  have hc:decide ((i:Int)<l.length)=true:=by simpa using hlt
  repeat' (first|refine zJ4 ?_|refine hp _ hmem _ hI1 _ ?_|simp (disch:=first|assumption|omega) only[go_sem, *]|((first|apply gw_m|apply gw_q);focus (intro hb;(try simp only[nbw] at hb);simp (disch:=first|assumption|omega) only[go_sem, *];rfl))|((first|refine zAB ?_ ?_|refine zAA ?_ ?_|refine sp_C ?_ ?_|refine sp_G ?_ ?_)<;>intro _))
  ·rename_i hpt
   rw[if_pos hpt] at he
   have:=hq i (by rw[← he];simp)
   rw[← he] at this
   exact this
  ·rename_i hpf
   rw[if_neg (by rw[hpf];simp)] at he
   exact hrec (i+1,(p a1 l[i]).2) _ _ _ ⟨hlt,hI _ hmem _ hI1 hpf,he⟩ (by simp only;omega) ⟨rfl,rfl,rfl,rfl,trivial⟩ rfl
 ·have hc:decide ((i:Int)<l.length)=false:=by simpa using hge
  rw[List.drop_eq_nil_of_le hge,anyS] at he
  repeat' (first|simp (disch:=first|assumption|omega) only[go_sem, *]|((first|apply gw_m|apply gw_q);focus (intro hb;(try simp only[nbw] at hb);simp (disch:=first|assumption|omega) only[go_sem, *];rfl))|((first|refine zAB ?_ ?_|refine zAA ?_ ?_|refine sp_C ?_ ?_|refine sp_G ?_ ?_)<;>intro _))
  have:=hq (-1) (by rw[← he];simp)
  rw[← he] at this
  exact this
theorem c60I {α σ:Type}{h:α→AV}{l:List α}{fv:AV}{p:σ→α→Bool×σ}{G:σ→Nat→Box}{a:σ}{m:Nat}{u:List (Nat×Nat)}(I:σ→Prop)(hI:∀x∈l,∀a,I a→(p a x).1=false→I (p a x).2)(hIa:I a)(hl:l.length<4611686018427387904)(hu:zAS m u=true)(hu2:zAK m u=u)
  (hsz:∀x,llen (cellsOf (h x))=7) (hld:∀x,pick1 (E1.types 32) (cellsOf (h x)) 0=some (h x)) (hfv:∀a,zA0 (S m (G a) u) fv=some (fv,S m (G a) u))
  (hp:∀x∈l,∀a,I a→∀Q:CR→Sto→Prop,Q (.ret (.bool (p a x).1)) (S m (G (p a x).2) u)→CV E1 fv [h x] (S m (G a) u) Q) {Q:CR→Sto→Prop}
  (hq:Q (.ret (.bool (anyS p a l).1)) (S m (G (anyS p a l).2) u)):C E1 60 [.sl 0 (l.map h) .shut,fv] (S m (G a) u) Q:=by
 have hfv0:=hfv a
 refine zAG (md:=⟨false,false,false,false⟩) (fn:=Tryz.f60) (n:=9) (rs:=[.tmp 4]) rfl rfl rfl rfl rfl rfl rfl (by simp only[go_sem, *];try rfl) (by rfl) ?_
 repeat' (first|simp (disch:=first|assumption|omega) only[go_sem, *]|((first|apply gw_m|apply gw_q);focus (intro hb;(try simp only[nbw] at hb);simp (disch:=first|assumption|omega) only[go_sem, *];rfl))|((first|refine zAB ?_ ?_|refine zAA ?_ ?_|refine sp_C ?_ ?_|refine sp_G ?_ ?_)<;>intro _))
 refine c151I (p:=p) (G:=G) (a:=a) I hI hIa hl hu hu2 hsz hld hfv hp (fun i hi=>?_)
 repeat' (first|simp (disch:=first|assumption|omega) only[go_sem, *]|((first|apply gw_m|apply gw_q);focus (intro hb;(try simp only[nbw] at hb);simp (disch:=first|assumption|omega) only[go_sem, *];rfl))|((first|refine zAB ?_ ?_|refine zAA ?_ ?_|refine sp_C ?_ ?_|refine sp_G ?_ ?_)<;>intro _))
 exact leaf hq (by simp)
abbrev mt (n:Int):Box:=.cells 75 [.int .i64 n]
theorem c59 {k:Nat}:∀(N:Nat) (v:V),szV v<N→szV v<1073741824→∀(deep left:Int) (m:Nat) (g:Nat→Box) (u:List (Nat×Nat)),zAS m u=true→zAK m u=u→k<m→g k=mt left→0≤deep→deep≤61→-1099511627776≤left→left≤12000→
  ∀Q:CR→Sto→Prop,Q (.ret (.bool (valM v deep left).1)) (S m (updB g k (mt (valM v deep left).2)) u)→C E1 59 [.ptr k 0,encV v,.int .i64 deep] (S m g u) Q:=by
 intro N
 induction N with
 | zero=>intro v h;exact absurd h (Nat.not_lt_zero _)
 | succ N ih=>
  intro v hN hsz deep left m g u hu hu2 hk hg hd0 hd1 hl0 hl1 Q h
  have hlv:=zD3 v
  rw[valM_eq] at h
  obtain⟨L1,hL1⟩:∃L1:Int,left-(1+(v.d.length:Int)+(v.s.length:Int) / 20)=L1:=⟨_,rfl⟩
  rw[hL1] at h
  obtain⟨g1,hg1⟩:∃g1,updB (updB (updB (updB g m (.cells 73 [.ptr k 0])) (m+1) (.cells 32 (zAZ v))) (m+1+1) (.cells 3 [.int .i64 deep])) k (.cells 75 [.int .i64 L1])=g1:=⟨_,rfl⟩
  have hq:(v.s.length:Int).tdiv 20=(v.s.length:Int) / 20:=Int.tdiv_eq_ediv_of_nonneg (by omega)
  unfold mt at hg
  have hdv:0≤(v.s.length:Int) / 20∧(v.s.length:Int) / 20≤1073741824:=by omega
  have hU3:=zCT hu hu2 (show m≤m+1+1+1 by omega)
  have hg1k:g1 k=mt L1:=by rw[← hg1,zAD]
  have hg1m:g1 m=.cells 73 [.ptr k 0]:=by rw[← hg1,zAC (by omega),zAC (by omega),zAC (by omega),zAD]
  have hg1v:g1 (m+1)=.cells 32 (zAZ v):=by rw[← hg1,zAC (by omega),zAC (by omega),zAD]
  have hg1d:g1 (m+1+1)=.cells 3 [.int .i64 deep]:=by rw[← hg1,zAC (by omega),zAD]
  have hlow:∀i,i<m→i≠k→g1 i=g i:=fun i h1 h2=>by rw[← hg1,zAC h2,zAC (by omega),zAC (by omega),zAC (by omega)]
  have hself:updB g1 k (mt L1)=g1:=by
   funext i
   by_cases hi:i=k
   ·rw[hi,zAD,hg1k]
   ·rw[zAC hi]
  have hse:=zKA hg1k hlow (u:=u)
  have hcl:∀(x:V),szV x<N→szV x<1073741824→deep≤60→∀a:Int,0≤a→a≤12000→∀Q:CR→Sto→Prop,Q (.ret (.bool (!(valM x (deep+1) a).1))) (S (m+1+1+1) (updB g1 k (mt (valM x (deep+1) a).2)) u)→C E1 149 [encV x,.ptr m 0,.ptr (m+1+1) 0] (S (m+1+1+1) (updB g1 k (mt a)) u) Q∧C E1 150 [encV x,.ptr m 0,.ptr (m+1+1) 0] (S (m+1+1+1) (updB g1 k (mt a)) u) Q:=by
   intro x hx hx2 hd a ha0 ha1 Q hQ
   obtain⟨G,hG⟩:∃G,updB g1 k (mt a)=G:=⟨_,rfl⟩
   have hGk:G k=mt a:=by rw[← hG,zAD]
   have hGm:G m=.cells 73 [.ptr k 0]:=by rw[← hG,zAC (by omega)];exact hg1m
   have hGd:G (m+1+1)=.cells 3 [.int .i64 deep]:=by rw[← hG,zAC (by omega)];exact hg1d
   have hGG:∀b,updB g1 k b=updB G k b:=fun b=>by rw[← hG,zKM]
   rw[hGG] at hQ
   rw[hG]
   have hU4:=zCT hU3.1 hU3.2 (Nat.le_succ _)
   have hr:=ih x hx hx2 (deep+1) a (m+1+1+1+1) (updB G (m+1+1+1) (.cells 32 (zAZ x))) u hU4.1 hU4.2 (by omega) (by rw[zAC (by omega)];exact hGk) (by omega) (by omega) (by omega) ha1
   have hkm3:k≠m+1+1+1:=by omega
   have hu':=hU3.1
   have hu2':=hU3.2
   generalize valM x (deep+1) a=st at *
   clear hself hse hlow hg1 hGG ih hg1k hg1m hg1v hg1d hq hL1 h hG hg
   constructor
   ·refine zAG (md:=⟨false,false,false,false⟩) (fn:=Tryz.f149) (n:=11) (rs:=[.tmp 4]) rfl rfl rfl rfl rfl rfl rfl (by simp only[go_sem, *];try rfl) (by rfl) ?_
    repeat' (first|refine hr _ ?_|simp (disch:=first|assumption|omega) only[go_sem, *]|((first|apply gw_m|apply gw_q);focus (intro hs;(try simp only[nbs] at hs);simp (disch:=first|assumption|omega) only[go_sem, *];rfl))|((first|refine zAB ?_ ?_|refine zAA ?_ ?_|refine sp_C ?_ ?_|refine sp_G ?_ ?_)<;>(intro hs;try simp only[nbs] at hs)))
   ·refine zAG (md:=⟨false,false,false,false⟩) (fn:=Tryz.f150) (n:=11) (rs:=[.tmp 4]) rfl rfl rfl rfl rfl rfl rfl (by simp only[go_sem, *];try rfl) (by rfl) ?_
    repeat' (first|refine hr _ ?_|simp (disch:=first|assumption|omega) only[go_sem, *]|((first|apply gw_m|apply gw_q);focus (intro hs;(try simp only[nbs] at hs);simp (disch:=first|assumption|omega) only[go_sem, *];rfl))|((first|refine zAB ?_ ?_|refine zAA ?_ ?_|refine sp_C ?_ ?_|refine sp_G ?_ ?_)<;>(intro hs;try simp only[nbs] at hs)))
  have hany:∀(f:FuncId) (l:List V),(f=149∨f=150)→(∀x∈l,szV x<N∧szV x<1073741824)→l.length<4611686018427387904→deep≤60→∀a:Int,0≤a→a≤12000→∀Q:CR→Sto→Prop,Q (.ret (.bool (!(valsM l (deep+1) a).1))) (S (m+1+1+1) (updB g1 k (mt (valsM l (deep+1) a).2)) u)→C E1 60 [.sl 0 (l.map encV) .shut,.func (m+1+1+1) (.func f) [] [.ptr m 0,.ptr (m+1+1) 0]] (S (m+1+1+1) (updB g1 k (mt a)) u) Q:=by
   intro f l hf hl hll hd a ha0 ha1 Q hQ
   refine c60I (h:=encV) (p:=fun a x=>(!(valM x (deep+1) a).1,(valM x (deep+1) a).2)) (G:=fun a=>updB g1 k (mt a)) (a:=a) (fun a=>0≤a∧a≤12000) ?_ ⟨ha0,ha1⟩ hll hU3.1 hU3.2 (fun x=>by rw[zA7];rfl) (fun x=>by rw[zA7];exact pk_V) (fun _=>rfl) ?_ ?_
   ·intro x hx a ha hp
    have:=valM_le x (deep+1) a (by simpa using hp)
    dsimp only
    omega
   ·intro x hx a ha Q hQ
    have hb:=hcl x (hl x hx).1 (hl x hx).2 hd a ha.1 ha.2 Q hQ
    rcases hf with rfl|rfl
    ·exact zDT rfl hb.1
    ·exact zDT rfl hb.2
   ·rw[zOM];exact hQ
  have hl1:=fun hd h0 h1=>hany 149 v.l (.inl rfl) (fun x hx=>by have:=szVs_mem hx;omega) (by have:=szVs_len v.l;omega) hd L1 h0 h1
  have hl2:=fun hd a h0 h1=>hany 150 v.m (.inr rfl) (fun x hx=>by have:=szVs_mem hx;omega) (by have:=szVs_len v.m;omega) hd a h0 h1
  rw[hself] at hl1
  have hle1:=valsM_le v.l (deep+1) L1
  clear hany hcl ih
  generalize valsM v.l (deep+1) L1=st at *
  obtain⟨b1,a1⟩:=st
  dsimp only at h hl1 hle1
  have hmx:(m+1).max (m+1+1+1)=m+1+1+1:=Nat.max_eq_right (by omega)
  have hse2:∀b,S m (updB g1 k b) u=S m (updB g k b) u:=fun b=>zKA zAD (fun i h1 h2=>by rw[zAC h2];exact hlow i h1 h2)
  refine zAG (md:=⟨false,false,false,false⟩) (fn:=Tryz.f59) (n:=45) (rs:=[.tmp 6]) rfl rfl rfl rfl rfl rfl rfl (by simp only[go_sem, *];try rfl) (by rfl) ?_
  repeat' (first|refine hl1 (by omega) (by omega) (by omega) _ ?_|simp (disch:=first|assumption|omega) only[go_sem, *]|((first|apply gw_m|apply gw_q);focus (intro hs;(try simp only[nbs] at hs);simp (disch:=first|assumption|omega) only[go_sem, *];rfl))|((first|refine zAB ?_ ?_|refine zAA ?_ ?_|refine sp_C ?_ ?_|refine sp_G ?_ ?_)<;>(intro hs;try simp only[nbs] at hs)))
  ·rw[if_pos (by simpa only[Bool.or_eq_true,decide_eq_true_eq] using hs)] at h;exact h
  ·subst hs
   rw[if_neg (by omega)] at h
   dsimp only at h
   have hr:=hle1 rfl (by omega)
   refine hl2 (by omega) a1 hr.1 (by omega) _ ?_
   clear hl1 hl2
   generalize valsM v.m (deep+1) a1=st at *
   repeat' (first|simp (disch:=first|assumption|omega) only[go_sem, *]|((first|apply gw_m|apply gw_q);focus (intro hs;(try simp only[nbs] at hs);simp (disch:=first|assumption|omega) only[go_sem, *];rfl))|((first|refine zAB ?_ ?_|refine zAA ?_ ?_|refine sp_C ?_ ?_|refine sp_G ?_ ?_)<;>(intro hs;try simp only[nbs] at hs)))
  ·subst hs
   rw[if_neg (by omega)] at h
   exact h
theorem c59' {k:Nat}{v:V}(hsz:szV v<1073741824){left:Int}{m:Nat}{g:Nat→Box}{u:List (Nat×Nat)}(hu:zAS m u=true)(hu2:zAK m u=u)(hk:k<m)(hg:g k=mt left)(h0:-1099511627776≤left)(h1:left≤12000){Q:CR→Sto→Prop}(h:Q (.ret (.bool (valM v 1 left).1)) (S m (updB g k (mt (valM v 1 left).2)) u)):C E1 59 [.ptr k 0,encV v,.int .i64 1] (S m g u) Q:=
 c59 (szV v+1) v (by omega) hsz 1 left m g u hu hu2 hk hg (by omega) (by omega) h0 h1 Q h
theorem c35 {k:Nat}:∀(N:Nat) (l:List X),szXs l<N→szXs l<1073741824→∀(deep left:Int) (m:Nat) (g:Nat→Box) (u:List (Nat×Nat)),zAS m u=true→zAK m u=u→k<m→g k=mt left→0≤deep→deep≤151→-549755813888≤left→left≤12000→
  ∀Q:CR→Sto→Prop,Q (.ret (.bool (exprsM l deep left).1)) (S m (updB g k (mt (exprsM l deep left).2)) u)→C E1 35 [.ptr k 0,.int .i64 deep,.sl 0 (l.map encX) .shut] (S m g u) Q:=by
 intro N
 induction N with
 | zero=>intro v h;exact absurd h (Nat.not_lt_zero _)
 | succ N ih=>
  intro l hN hsz deep left m g u hu hu2 hk hg hd0 hd1 hl0 hl1 Q h
  have hll:=szXs_len l
  obtain⟨R,hR⟩:∃R,exprsM l deep left=R:=⟨_,rfl⟩
  rw[hR] at h
  refine zAG (md:=⟨false,false,false,false⟩) (fn:=Tryz.f35) (n:=52) (rs:=[.tmp 6]) rfl rfl rfl rfl rfl rfl rfl (by simp only[go_sem, *];try rfl) (by rfl) ?_
  repeat' (first|simp (disch:=first|assumption|omega) only[go_sem, *]|((first|apply gw_m|apply gw_q);focus (intro hs;(try simp only[nbs] at hs);simp (disch:=first|assumption|omega) only[go_sem, *];rfl))|((first|refine zAB ?_ ?_|refine zAA ?_ ?_|refine sp_C ?_ ?_|refine sp_G ?_ ?_)<;>(intro hs;try simp only[nbs] at hs)))
  refine zAL (ι:=Nat×Int×Nat×(Nat→Box)) (fun p=>[(0,.ptr k 0),(1,.int .i64 deep),(9,.sl 0 (l.map encX) .shut),(10,.int .i64 l.length),(11,.int .i64 p.1)]) (fun p=>S p.2.2.1 p.2.2.2 u)
   (fun p=>p.1≤l.length∧m≤p.2.2.1∧p.2.2.2 k=mt p.2.1∧(∀i,i<m→i≠k→p.2.2.2 i=g i)∧-549755813888≤p.2.1∧p.2.1≤12000∧exprsM (l.drop p.1) deep p.2.1=R) (fun p=>l.length-p.1) ?_ (0,left,m,g) ⟨Nat.zero_le _,Nat.le_refl _,hg,fun _ _ _=>rfl,hl0,hl1,hR⟩ ⟨rfl,rfl,rfl,rfl,rfl,trivial⟩ rfl
  clear hg hl0 hl1 hR
  clear left
  rintro⟨i,left,M,G⟩ b ⟨hi,hM,hGk,hlow,hl0,hl1,hR⟩ hrec
  dsimp only at hi hM hGk hlow hl0 hl1 hR hrec ⊢
  rcases Nat.lt_or_ge i l.length with hlt|hge
  ·have hc:decide ((i:Int)<l.length)=true:=decide_eq_true (by omega)
   have hx:l[i]?=some l[i]:=List.getElem?_eq_getElem hlt
   have hsx:=szXs_mem (List.getElem_mem hlt)
   rw[List.drop_eq_getElem_cons hlt,exprsM,nodeM_eq] at hR
   generalize l[i]=x at *
   have hxz:=zIE x
   have hxs:=lens_len x.s
   obtain⟨L1,hL1⟩:∃L1:Int,left-(1+(x.s.length:Int))=L1:=⟨_,rfl⟩
   rw[hL1] at hR
   have hkM:k≠M:=by omega
   obtain⟨G1,hG1⟩:∃G1,updB (updB G M (.cells 34 (zAO x))) k (.cells 75 [.int .i64 L1])=G1:=⟨_,rfl⟩
   have hG1k:G1 k=mt L1:=by rw[← hG1,zAD]
   have hG1M:G1 M=.cells 34 (zAO x):=by rw[← hG1,zAC (by omega),zAD]
   have hlow1:∀i,i<m→i≠k→G1 i=g i:=fun i h1 h2=>by rw[← hG1,zAC h2,zAC (by omega)];exact hlow i h1 h2
   have hU3:=zCT hu hu2 (show m≤M+1 by omega)
   have h59:=fun(hb:0≤L1) (Q:CR→Sto→Prop) hQ=>c59' (k:=k) (v:=x.v) (left:=L1) (m:=M+1) (g:=G1) (u:=u) (by omega) hU3.1 hU3.2 (by omega) hG1k (by omega) (by omega) (Q:=Q) hQ
   have hvle:=valM_le x.v 1 L1
   generalize valM x.v 1 L1=st at *
   obtain⟨b1,a1⟩:=st
   dsimp only at hR h59 hvle
   have h35:=fun(hb:b1=true) (hd:deep≤150)=>have hb0:=hvle hb;ih x.l (by omega) (by omega) (deep+1) a1 (M+1) (updB G1 k (mt a1)) u hU3.1 hU3.2 (by omega) zAD (by omega) (by omega) (by omega) (by omega)
   have hele:=exprsM_le x.l (deep+1) a1
   obtain⟨st2,hst2⟩:∃st2,exprsM x.l (deep+1) a1=st2:=⟨_,rfl⟩
   rw[hst2] at h35 hele
   obtain⟨b2,a2⟩:=st2
   dsimp only at h35 hele hR
   clear ih
   repeat' (first|refine h59 (by omega) _ ?_|refine h35 ‹b1=true› (by omega) _ ?_|simp (disch:=first|assumption|omega) only[go_sem, *]|((first|apply gw_m|apply gw_q);focus (intro hs;(try simp only[nbs] at hs);simp (disch:=first|assumption|omega) only[go_sem, *];rfl))|((first|refine zAB ?_ ?_|refine zAA ?_ ?_|refine sp_C ?_ ?_|refine sp_G ?_ ?_)<;>(intro hs;try simp only[nbs] at hs)))
   ·rename_i hn hb
    subst hb hs
    rw[if_neg (by omega)] at hR
    dsimp only at hR
    rw[hst2] at hR
    rw[← hR] at h
    rw[zKA (g:=g) (G:=updB G1 k (mt a2)) zAD (fun i h1 h2=>by rw[zAC h2];exact hlow1 i h1 h2)]
    exact h
   ·rename_i hn hb
    subst hb hs
    rw[if_neg (by omega)] at hR
    dsimp only at hR
    rw[hst2] at hR
    have hv1:=hvle rfl
    have hv2:=hele rfl (by omega)
    exact hrec (i+1,a2,M+1,updB G1 k (mt a2)) _ _ _ ⟨hlt,by dsimp only;omega,zAD,fun i h1 h2=>by dsimp only;rw[zAC h2];exact hlow1 i h1 h2,by dsimp only;omega,by dsimp only;omega,hR⟩ (by dsimp only;omega) ⟨rfl,rfl,rfl,rfl,congrArg (fun z=>some (AV.int .i64 z)) (by dsimp only;omega),trivial⟩ rfl
   ·rename_i hn
    subst hs
    rw[if_neg (by omega)] at hR
    dsimp only at hR
    rw[← hR] at h
    rw[zKA (g:=g) (G:=updB G1 k (mt a1)) zAD (fun i h1 h2=>by rw[zAC h2];exact hlow1 i h1 h2)]
    exact h
   ·rw[if_pos (by simpa only[Bool.or_eq_true,decide_eq_true_eq] using hs)] at hR
    rw[← hR] at h
    rw[zKA hG1k hlow1]
    exact h
  ·have hc:decide ((i:Int)<l.length)=false:=decide_eq_false (by omega)
   clear hrec ih
   rw[List.drop_eq_nil_of_le hge,exprsM] at hR
   rw[← hR] at h
   have hSe:=zKA hGk hlow (u:=u)
   repeat' (first|simp (disch:=first|assumption|omega) only[go_sem, *]|((first|apply gw_m|apply gw_q);focus (intro hs;(try simp only[nbs] at hs);simp (disch:=first|assumption|omega) only[go_sem, *];rfl))|((first|refine zAB ?_ ?_|refine zAA ?_ ?_|refine sp_C ?_ ?_|refine sp_G ?_ ?_)<;>(intro hs;try simp only[nbs] at hs)))
end Go.Ab.X
end
