/- A part. -/
import Derived.Test.YtodldpffhfgicaaGreatDoorK3
set_option linter.all false
noncomputable section
namespace Go.Ab.X
open Go Go.Ab Go.Proofs Pl
set_option maxRecDepth 100000
set_option maxHeartbeats 1000000
theorem app_oslB {ty:TypeId}{es b m k n:Nat}{g:Nat→Box}{u:List (Nat×Nat)}{xs ys:List AV}{sl:Bool}(hk:k<m)(hg:g k=.row ty es xs sl)(hn:0<ys.length)(hf:zBK es ys=true)(hl:n=xs.length)(hb:(xs.length+ys.length)*b≤140737488355328∧xs.length+ys.length≤140737488355328)(ht:tops (xs++ys)=0) :
  zAR ty es b (.osl k 0 n) ys (S m g u)=some (.osl m 0 (n+ys.length),S (m+1) (updB (updB g k .dead) m (.row ty es (xs++ys) sl)) u):=by
 subst hl
 cases ys with
 | nil=>simp at hn
 | cons a r=>
  simp only[zAR,hf,cond_true,zHS,zEY hk,hg,Nat.beq_refl,Bool.true_and,zAH,Nat.zero_add,zCK,Nat.le_refl,decide_true]
  rw[decide_eq_false (by simp)]
  have e:(bif sl then true else true)=true:=by cases sl<;>rfl
  simp only[cond_false,Bool.and_self,cond_true,e,zHJ,zBP,zCA,List.take_length,zAH,limit_eq,zCK,List.length_append,decide_eq_true hb.1,decide_eq_true hb.2,zIP hk,S_n,zJ6]
  rw[zMO (by rw[ht];omega)]
def gF (ty:TypeId)(es base:Nat)(g:Nat→Box)(m k:Nat)(xs:List AV):Prop:=base≤m∧(xs=[]∨(base≤k∧k<m∧∃sl,g k=.row ty es xs sl))
def gs (k:Nat)(xs:List AV):AV:=match xs with | []=>.sl 0 [] .nil|_ :: _=>.osl k 0 xs.length
theorem zNL {ty:TypeId}{es base m k:Nat}{g:Nat→Box}(h:base≤m):gF ty es base g m k []:=⟨h,.inl rfl⟩
theorem zFJ {ty:TypeId}{es b base m k:Nat}{g:Nat→Box}{u:List (Nat×Nat)}{xs ys:List AV}(hg:gF ty es base g m k xs)(hf:zBK es ys=true)(hn:0<ys.length)(hb:(xs.length+ys.length)*b≤140737488355328∧xs.length+ys.length≤140737488355328)(ht:tops (xs++ys)=0) :
  ∃g',zAR ty es b (gs k xs) ys (S m g u)=some (gs m (xs++ys),S (m+1) g' u)∧gF ty es base g' (m+1) m (xs++ys)∧∀j,j<base→g' j=g j:=by
 obtain⟨hm,h⟩:=hg
 cases xs with
 | nil=>
  refine⟨updB g m (.row ty es ys false),?_,⟨by omega,.inr ⟨hm,by omega,false,?_⟩⟩,fun j hj=>?_⟩
  ·rw[gs,zGW hf hn (by simpa using hb) (by simpa using ht)]
   cases ys with
   | nil=>simp at hn
   | cons a r=>rfl
  ·simp[updB]
  ·simp[updB,show j≠m by omega]
 | cons a r=>
  rcases h with h|⟨h1,h2,sl,hg⟩
  ·cases h
  refine⟨updB (updB g k .dead) m (.row ty es ((a :: r)++ys) sl),?_,⟨by omega,.inr ⟨hm,by omega,sl,?_⟩⟩,fun j hj=>?_⟩
  ·show zAR ty es b (.osl k 0 (a :: r).length) ys _=_
   rw[app_oslB h2 hg hn hf rfl hb ht]
   show some (AV.osl m 0 ((a :: r).length+ys.length),_)=some (AV.osl m 0 ((a :: r)++ys).length,_)
   rw[List.length_append]
  ·simp[updB]
  ·simp[updB,show j≠m by omega,show j≠k by omega]
theorem zGK {ty:TypeId}{es base m k:Nat}{g:Nat→Box}{u:List (Nat×Nat)}{xs:List AV}(hg:gF ty es base g m k xs)(ht:tops xs=0):∃g',zBC (S m g u) (gs k xs)=some (.sl 0 xs .shut,S m g' u)∧gF ty es base g' m k xs∧∀j,j<base→g' j=g j:=by
 obtain⟨hm,h⟩:=hg
 cases xs with
 | nil=>exact⟨g,rfl,⟨hm,.inl rfl⟩,fun _ _=>rfl⟩
 | cons a r=>
  rcases h with h|⟨h1,h2,sl,hg⟩
  ·cases h
  exact⟨_,zFG h2 hg rfl ht,⟨hm,.inr ⟨h1,h2,true,by simp[updB]⟩⟩,fun j hj=>by simp[updB,show j≠k by omega]⟩
def zP7 (ms:List Str):List Str→List Str→Bool
 | _,[]=>true
 | acc,s :: r=>decide (s∈ms)&&!decide (s∈acc)&&zP7 ms (acc++[s]) r
def grpM (ms:List Str):List Str→List (List Str)→Bool
 | _,[]=>true
 | acc,l :: r=>decide (2≤(l.length:Int))&&zP7 ms acc l&&grpM ms (acc++l) r
theorem c254g {l:List Str}{x:Str}{base m k:Nat}{g:Nat→Box}(hl:l.length<4611686018427387904)(h:gF 9 1 base g m k (l.map AV.str)):∃g',(∀Q:CR→Sto→Prop,Q (.ret (.bool (decide (x∈l)))) (S m g' [])→C E1 254 [gs k (l.map AV.str),.str x] (S m g []) Q)∧gF 9 1 base g' m k (l.map AV.str)∧∀j,j<base→g' j=g j:=by
 obtain⟨g',h1,h2,h3⟩:=zGK (u:=[]) h (zEG l)
 refine⟨g',fun Q hQ=>zG3 (args1:=[.sl 0 (l.map AV.str) .shut,.str x]) (s1:=S m g' []) rfl rfl rfl rfl rfl ?_ rfl (c254 hl hQ),h2,h3⟩
 simp only[zBO,h1]
 rfl
theorem c210 {sp:Pl.Spec}{s:Sto}(l1:sp.groups.length<1073741824)(l2:sp.groups.flatten.length<1073741824)(l3:sp.models.length<1073741824)
  {Q:CR→Sto→Prop} (h:Q (.ret (.bool (grpM sp.models [] sp.groups&&decide ((sp.groups.length:Int)≤10)))) s):C E1 210 [zAN sp] s Q:=by
 refine ci Tryz.f210 55 [.tmp 2] ?_
 repeat' (first|refine wk ?_|refine fk ?_ ?_<;>intro hs|exact⟨⟩|fail)
 refine zAF (ι:=Nat×List Str×Nat×Nat×(Nat→Box)) (fun p=>[(1,.ptr 0 0),(3,gs p.2.2.2.1 (p.2.1.map AV.str)),(4,.int .i64 p.1)]) (fun p=>S p.2.2.1 p.2.2.2.2 [])
  (fun p=>gF 9 1 1 p.2.2.2.2 p.2.2.1 p.2.2.2.1 (p.2.1.map AV.str)∧p.2.2.2.2 0=.cells 40 (zAC sp)∧p.1≤sp.groups.length∧p.2.1.length+(sp.groups.drop p.1).flatten.length<1073741824∧grpM sp.models [] sp.groups=grpM sp.models p.2.1 (sp.groups.drop p.1)) (fun p=>sp.groups.length-p.1) ?_ (0,[],1,0,_) ⟨zNL (Nat.le_refl _),rfl,Nat.zero_le _,by simpa using l2,rfl⟩ ⟨rfl,rfl,rfl,trivial⟩ rfl
 rintro⟨i,acc,m,k,g⟩ b ⟨hF,hg0,hi,hb,he⟩ hrec
 dsimp only at hF hg0 hi hb he hrec ⊢
 have hm:1≤m:=hF.1
 rcases Nat.lt_or_ge i sp.groups.length with hlt|hge
 ·have hc:decide ((i:Int)<sp.groups.length)=true:=decide_eq_true (by omega)
  have hx:sp.groups[i]?=some sp.groups[i]:=List.getElem?_eq_getElem hlt
  rw[List.drop_eq_getElem_cons hlt] at hb he
  rw[List.flatten_cons,List.length_append] at hb
  rw[grpM] at he
  generalize hl:sp.groups[i]=l at *
  by_cases h2:(2:Int)≤l.length
  ·have hd2:decide ((l.length:Int)<2)=false:=decide_eq_false (by omega)
   rw[decide_eq_true h2,Bool.true_and] at he
   repeat' (first|refine wk ?_|refine fk ?_ ?_<;>intro hs|exact⟨⟩|fail)
   refine zAF (ι:=Nat×Nat×Nat×(Nat→Box)) (fun p=>[(1,.ptr 0 0),(3,gs p.2.2.1 ((acc++l.take p.1).map AV.str)),(4,.int .i64 i),(5,.sl 0 (l.map AV.str) .shut),(6,.int .i64 p.1)]) (fun p=>S p.2.1 p.2.2.2 [])
    (fun p=>gF 9 1 1 p.2.2.2 p.2.1 p.2.2.1 ((acc++l.take p.1).map AV.str)∧p.2.2.2 0=.cells 40 (zAC sp)∧p.1≤l.length∧zP7 sp.models acc l=zP7 sp.models (acc++l.take p.1) (l.drop p.1)) (fun p=>l.length-p.1) ?_ (0,m,k,g) ⟨by dsimp only;rw[List.take_zero,List.append_nil];exact hF,hg0,Nat.zero_le _,by dsimp only;rw[List.take_zero,List.append_nil];rfl⟩ ⟨rfl,by rw[List.take_zero,List.append_nil];rfl,rfl,rfl,rfl,trivial⟩ rfl
   clear hF hg0 hm
   clear m k g
   rintro⟨j,m,k,g⟩ b ⟨hF,hg0,hj,hd⟩ hrec2
   dsimp only at hF hg0 hj hd hrec2 ⊢
   have hm:1≤m:=hF.1
   have ka:(acc++l.take j).length<1073741824:=by rw[List.length_append,List.length_take];omega
   rcases Nat.lt_or_ge j l.length with hjl|hjg
   ·have hcj:decide ((j:Int)<l.length)=true:=decide_eq_true (by omega)
    have hy:l[j]?=some l[j]:=List.getElem?_eq_getElem hjl
    have km:sp.models.length<4611686018427387904:=by omega
    rw[List.drop_eq_getElem_cons hjl,zP7] at hd
    obtain⟨gA,cA,hFA,hAA⟩:=c254g (x:=l[j]) (by omega) hF
    have hgA:gA 0=.cells 40 (zAC sp):=by rw[hAA 0 (by omega)];exact hg0
    obtain⟨gB,aB,hFB,hBB⟩:=zFJ (b:=16) (u:=[]) (ys:=[AV.str l[j]]) hFA rfl (by simp) (by rw[List.length_map];simp;omega) (by rw[zAV,zEG];rfl)
    have hgB:gB 0=.cells 40 (zAC sp):=by rw[hBB 0 (by omega)];exact hgA
    have e1:(acc++l.take j).map AV.str++[AV.str l[j]]=(acc++l.take (j+1)).map AV.str:=by rw[List.take_succ_eq_append_getElem hjl,← List.append_assoc,List.map_append (l₁:=acc++l.take j)];rfl
    have e2:acc++l.take j++[l[j]]=acc++l.take (j+1):=by rw[List.take_succ_eq_append_getElem hjl,← List.append_assoc]
    rw[e1] at aB hFB
    rw[e2] at hd
    clear e1 e2 hF hFA hAA hBB
    repeat' (first|refine c254 km ?_|refine cA _ ?_|refine wk ?_|refine fk ?_ ?_<;>intro hs|exact⟨⟩|fail)
    all_goals first
     | exact hrec2 (j+1,m+1,m,gB) _ _ _ ⟨hFB,hgB,by dsimp only;omega,by rw[hd];clear hrec hrec2 h he cA aB;simp_all⟩ (by dsimp only;omega) ⟨rfl,rfl,rfl,rfl,congrArg (fun z=>some (AV.int .i64 z)) (by dsimp only;omega),trivial⟩ rfl
     | (have hf:grpM sp.models [] sp.groups=false:=by rw[he,hd];clear hrec hrec2 h he cA aB;simp_all
        rw[hf,Bool.false_and] at h;exact h)
   ·have hcj:decide ((j:Int)<l.length)=false:=decide_eq_false (by omega)
    rw[List.drop_eq_nil_of_le hjg,zP7] at hd
    rw[hd,Bool.true_and] at he
    rw[List.take_of_length_le hjg] at hF ⊢
    clear hrec2
    repeat' (first|refine wk ?_|refine fk ?_ ?_<;>intro hs|exact⟨⟩|fail)
    exact hrec (i+1,acc++l,m,k,g) _ _ _ ⟨hF,hg0,by dsimp only;omega,by dsimp only;rw[List.length_append];omega,he⟩ (by dsimp only;omega) ⟨rfl,rfl,congrArg (fun z=>some (AV.int .i64 z)) (by dsimp only;omega),trivial⟩ rfl
  ·have hd2:decide ((l.length:Int)<2)=true:=decide_eq_true (by omega)
   rw[decide_eq_false h2,Bool.false_and,Bool.false_and] at he
   rw[he,Bool.false_and] at h
   clear hrec h2
   repeat' (first|refine wk ?_|refine fk ?_ ?_<;>intro hs|exact⟨⟩|fail)
 ·have hc:decide ((i:Int)<sp.groups.length)=false:=decide_eq_false (by omega)
  rw[List.drop_eq_nil_of_le hge,grpM] at he
  rw[he,Bool.true_and] at h
  clear hrec he
  repeat' (first|refine wk ?_|refine fk ?_ ?_<;>intro hs|exact⟨⟩|fail)
theorem dist_app (acc l r:List Str):Pl.distinct acc (l++r)=(Pl.distinct acc l&&Pl.distinct (acc++l) r):=by
 induction l generalizing acc with
 | nil=>rw[List.append_nil];rfl
 | cons a l ih=>rw[List.cons_append,Pl.distinct,Pl.distinct,ih,List.append_assoc,List.singleton_append];simp only[Bool.and_assoc]
theorem zY7 {acc l:List Str}(h:Pl.distinct acc l=true):∀s∈l,zC7 s=true:=by
 induction l generalizing acc with
 | nil=>intro s hs;cases hs
 | cons a l ih=>
  rw[Pl.distinct,Bool.and_eq_true,Bool.and_eq_true] at h
  intro s hs
  rcases List.mem_cons.1 hs with rfl|hs
  ·exact h.1.1
  ·exact ih h.2 s hs
theorem distM_eq {ms:List Str}(hm:∀s∈ms,zC7 s=true)(acc l:List Str):zP7 ms acc l=(Pl.distinct acc l&&l.all (fun s=>decide (s∈ms))):=by
 induction l generalizing acc with
 | nil=>rfl
 | cons a l ih=>
  rw[zP7,Pl.distinct,List.all_cons,ih]
  by_cases ha:a∈ms
  ·rw[hm a ha,decide_eq_true ha]
   cases decide (a∈acc)<;>cases Pl.distinct (acc++[a]) l<;>rfl
  ·rw[decide_eq_false ha];simp
theorem grpM_eq {ms:List Str}(hm:∀s∈ms,zC7 s=true)(acc:List Str)(gs:List (List Str)):grpM ms acc gs=(gs.all (fun l=>decide (2≤(l.length:Int)))&&Pl.distinct acc gs.flatten&&gs.flatten.all (fun s=>decide (s∈ms))):=by
 induction gs generalizing acc with
 | nil=>rfl
 | cons l r ih=>
  rw[grpM,distM_eq hm,ih,List.all_cons,List.flatten_cons,dist_app,List.all_append]
  cases decide (2≤(l.length:Int))<;>cases Pl.distinct acc l<;>cases l.all (fun s=>decide (s∈ms))<;>cases r.all (fun l=>decide (2≤(l.length:Int)))<;>cases Pl.distinct (acc++l) r.flatten<;>rfl
theorem zYK {sp:Pl.Spec}(h:Pl.distinct [] sp.models=true):(grpM sp.models [] sp.groups&&decide ((sp.groups.length:Int)≤10))=zEC sp:=by
 rw[grpM_eq (zY7 h),zEC]
 cases decide ((sp.groups.length:Int)≤10)<;>simp
theorem flat_Def (a:Pl.Def):flatC (zBG a)=true:=rfl
attribute [go_sem] flat_Def
theorem c211 {sp:Pl.Spec}{s:Sto}(hdl:sp.defs.length<1073741824)(hml:sp.models.length<1073741824)(hvl:sp.vars.length<1073741824)(hcl:sp.consts.length<1073741824)(hp:∀n,(params sp n).length<2000000)(hn:∀x∈sp.defs,x.name.length<1073741824)(hb:∀x∈sp.defs,szX x.body<1073741824)
  {Q:CR→Sto→Prop} (h:Q (.ret (.bool (defHeads [] sp.defs&&bodies sp 0 sp.defs))) s):C E1 211 [zAN sp] s Q:=by
 refine ci Tryz.f211 120 [.tmp 2] ?_
 repeat' (first|refine wk ?_|refine fk ?_ ?_<;>intro hs|exact⟨⟩|fail)
 refine zAF (ι:=Nat×Nat×(Nat→Box)) (fun p=>[(1,.ptr 0 0),(3,.int .i64 p.1)]) (fun p=>S p.2.1 p.2.2 [])
  (fun p=>1≤p.2.1∧p.2.2 0=.cells 40 (zAC sp)∧p.1≤sp.defs.length∧defHeads [] sp.defs=defHeads (sp.defs.take p.1) (sp.defs.drop p.1)) (fun p=>sp.defs.length-p.1) ?_ (0,1,_) ⟨Nat.le_refl _,rfl,Nat.zero_le _,rfl⟩ ⟨rfl,rfl,trivial⟩ rfl
 rintro⟨i,m,g⟩ b ⟨hm,hg0,hi,he⟩ hrec
 dsimp only at hm hg0 hi he hrec ⊢
 rcases Nat.lt_or_ge i sp.defs.length with hlt|hge
 ·have hc:decide ((i:Int)<sp.defs.length)=true:=decide_eq_true (by omega)
  have hx:sp.defs[i]?=some sp.defs[i]:=List.getElem?_eq_getElem hlt
  have hnl:=hn _ (List.getElem_mem hlt)
  rw[List.drop_eq_getElem_cons hlt,defHeads] at he
  generalize hl:sp.defs[i]=l at *
  have hpl:l.params.length<2000000:=by have:=hp i;rw[params,Int.toNat_natCast,List.getD_eq_getElem?_getD,hx] at this;exact this
  repeat' (first|refine wk ?_|refine fk ?_ ?_<;>intro hs|exact⟨⟩|fail)
  all_goals first
   | (have hf:defHeads [] sp.defs=false:=by rw[he];clear hrec h he;simp only[zRG];grind
      rw[hf,Bool.false_and] at h;exact h)
   | skip
  generalize hG:updB g m (.cells 128 (zBG l))=G
  have hG0:G 0=.cells 40 (zAC sp):=by rw[← hG,zAA (by omega)];exact hg0
  have hGm:G m=.cells 128 (zBG l):=by rw[← hG];simp[updB]
  clear hG
  refine zAF (ι:=Nat) (fun j=>[(1,.ptr 0 0),(3,.int .i64 i),(4,.ptr m 0),(5,.int .i64 j)]) (fun _=>S (m+1) G [])
   (fun j=>(l.name.all fun c=>decide ((33:Int)≤c.toNat)&&decide ((c.toNat:Int)≤126))=((l.name.drop j).all fun c=>decide ((33:Int)≤c.toNat)&&decide ((c.toNat:Int)≤126))) (fun j=>l.name.length-j) ?_ 0 rfl ⟨rfl,rfl,rfl,rfl,trivial⟩ rfl
  rintro j b hj hrec2
  rcases Nat.lt_or_ge j l.name.length with hjl|hjg
  ·have hcj:decide ((j:Int)<l.name.length)=true:=decide_eq_true (by omega)
   have hy:l.name[j]?=some l.name[j]:=List.getElem?_eq_getElem hjl
   rw[List.drop_eq_getElem_cons hjl,List.all_cons] at hj
   repeat' (first|refine wk ?_|refine fk ?_ ?_<;>intro hs|exact⟨⟩|fail)
   all_goals first
    | exact hrec2 (j+1) _ _ _ (by rw[hj];clear hrec hrec2 h he;grind) (by omega) ⟨rfl,rfl,rfl,rfl,trivial⟩ rfl
    | (have hf:defHeads [] sp.defs=false:=by rw[he];clear hrec hrec2 h he;simp only[zRG,hj];grind
       rw[hf,Bool.false_and] at h;exact h)
  ·have hcj:decide ((j:Int)<l.name.length)=false:=decide_eq_false (by omega)
   rw[List.drop_eq_nil_of_le hjg,List.all_nil] at hj
   clear hrec2
   repeat' (first|refine wk ?_|refine fk ?_ ?_<;>intro hs|exact⟨⟩|fail)
   refine zAF (ι:=Nat) (fun j=>[(1,.ptr 0 0),(3,.int .i64 i),(4,.ptr m 0),(6,.int .i64 j)]) (fun _=>S (m+1) G [])
    (fun j=>j≤i∧((sp.defs.take i).any fun x=>decide (x.name=l.name))=(((sp.defs.take i).drop j).any fun x=>decide (x.name=l.name))) (fun j=>i-j) ?_ 0 ⟨Nat.zero_le _,rfl⟩ ⟨rfl,rfl,rfl,rfl,trivial⟩ rfl
   clear hjg hcj
   rintro j2 b ⟨hji,hj2⟩ hrec2
   rcases Nat.lt_or_ge j2 i with hjl|hjg
   ·have hcj:decide ((j2:Int)<i)=true:=decide_eq_true (by omega)
    have hy:sp.defs[j2]?=some sp.defs[j2]:=List.getElem?_eq_getElem (by omega)
    rw[List.drop_eq_getElem_cons (by rw[List.length_take];omega),List.any_cons,List.getElem_take] at hj2
    repeat' (first|refine wk ?_|refine fk ?_ ?_<;>intro hs|exact⟨⟩|fail)
    all_goals first
     | exact hrec2 (j2+1) _ _ _ ⟨by omega,by rw[hj2];clear hrec hrec2 h he;grind⟩ (by omega) ⟨rfl,rfl,rfl,rfl,trivial⟩ rfl
     | (have hf:defHeads [] sp.defs=false:=by rw[he,hj2];clear hrec hrec2 h he;grind
        rw[hf,Bool.false_and] at h;exact h)
   ·have hcj:decide ((j2:Int)<i)=false:=decide_eq_false (by omega)
    rw[List.drop_eq_nil_of_le (by rw[List.length_take];omega),List.any_nil] at hj2
    clear hrec2
    repeat' (first|refine wk ?_|refine fk ?_ ?_<;>intro hs|exact⟨⟩|fail)
    refine zAF (ι:=Nat) (fun j=>[(1,.ptr 0 0),(3,.int .i64 i),(4,.ptr m 0),(7,.int .i64 j)]) (fun _=>S (m+1) G [])
     (fun j=>(l.params.all fun p=>decide (0≤p)&&decide (p≤8))=((l.params.drop j).all fun p=>decide (0≤p)&&decide (p≤8))) (fun j=>l.params.length-j) ?_ 0 rfl ⟨rfl,rfl,rfl,rfl,trivial⟩ rfl
    clear hjg hcj
    rintro j3 b hj3 hrec2
    rcases Nat.lt_or_ge j3 l.params.length with hjl|hjg
    ·have hcj:decide ((j3:Int)<l.params.length)=true:=decide_eq_true (by omega)
     have hy:l.params[j3]?=some l.params[j3]:=List.getElem?_eq_getElem hjl
     rw[List.drop_eq_getElem_cons hjl,List.all_cons] at hj3
     repeat' (first|refine wk ?_|refine fk ?_ ?_<;>intro hs|exact⟨⟩|fail)
     all_goals first
      | exact hrec2 (j3+1) _ _ _ (by rw[hj3];clear hrec hrec2 h he;grind) (by omega) ⟨rfl,rfl,rfl,rfl,trivial⟩ rfl
      | (have hf:defHeads [] sp.defs=false:=by rw[he,hj3];clear hrec hrec2 h he;grind
         rw[hf,Bool.false_and] at h;exact h)
    ·have hcj:decide ((j3:Int)<l.params.length)=false:=decide_eq_false (by omega)
     rw[List.drop_eq_nil_of_le hjg,List.all_nil] at hj3
     clear hrec2
     have hT:defHeads [] sp.defs=defHeads (sp.defs.take (i+1)) (sp.defs.drop (i+1)):=by
      rw[he,hj3,hj2,List.take_succ_eq_append_getElem hlt,hl];clear hrec h he;simp only[zRG,hj];grind
     repeat' (first|refine wk ?_|refine fk ?_ ?_<;>intro hs|exact⟨⟩|fail)
     exact hrec (i+1,m+1,G) _ _ _ ⟨by dsimp only;omega,hG0,by dsimp only;omega,hT⟩ (by dsimp only;omega) ⟨rfl,congrArg (fun z=>some (AV.int .i64 z)) (by dsimp only;omega),trivial⟩ rfl
 ·have hc:decide ((i:Int)<sp.defs.length)=false:=decide_eq_false (by omega)
  rw[List.drop_eq_nil_of_le hge,defHeads] at he
  rw[he,Bool.true_and] at h
  clear hrec he
  repeat' (first|refine wk ?_|refine fk ?_ ?_<;>intro hs|exact⟨⟩|fail)
  refine zAF (ι:=Nat×Nat×(Nat→Box)) (fun p=>[(1,.ptr 0 0),(8,.int .i64 p.1)]) (fun p=>S p.2.1 p.2.2 [])
   (fun p=>1≤p.2.1∧p.2.2 0=.cells 40 (zAC sp)∧p.1≤sp.defs.length∧bodies sp 0 sp.defs=bodies sp p.1 (sp.defs.drop p.1)) (fun p=>sp.defs.length-p.1) ?_ (0,m,g) ⟨hm,hg0,Nat.zero_le _,rfl⟩ ⟨rfl,rfl,trivial⟩ rfl
  clear hm hg0 hi hge hc
  clear m g i
  rintro⟨i,m,g⟩ b ⟨hm,hg0,hi,he⟩ hrec
  dsimp only at hm hg0 hi he hrec ⊢
  rcases Nat.lt_or_ge i sp.defs.length with hlt|hge
  ·have hc:decide ((i:Int)<sp.defs.length)=true:=decide_eq_true (by omega)
   have hx:sp.defs[i]?=some sp.defs[i]:=List.getElem?_eq_getElem hlt
   have hr:∀(s:Sto) (Q:CR→Sto→Prop),(∀p:List Int,Q (.ret (.tuple [.sl 0 (p.map iv) .shut,.bool (!ok sp i sp.defs[i].params sp.defs[i].body 0)])) s)→C E1 214 [zF9 sp i sp.defs[i].params,encX sp.defs[i].body,.int .i64 0,.sl 0 [] .nil] s Q:=fun s Q hQ=>
    c214 (by omega) hdl hml hvl hcl (fun n=>by have:=hp n;omega) _ (path:=[]) (pv:=.sl 0 [] .nil) (s1:=s) rfl (Nat.lt_succ_self _) (by have:=hb _ (List.getElem_mem hlt);simp;omega) (by have:=hp i;rw[params,Int.toNat_natCast,List.getD_eq_getElem?_getD,hx] at this;exact this) hQ
   rw[List.drop_eq_getElem_cons hlt,bodies] at he
   repeat' (first|refine hr _ _ ?_|refine wk ?_|refine fk ?_ ?_<;>intro hs|exact⟨⟩|fail)
   intro p
   cases hok:ok sp i sp.defs[i].params sp.defs[i].body 0
   ·rw[hok,Bool.false_and] at he
    rw[he] at h
    clear hrec hr
    repeat' (first|refine wk ?_|refine fk ?_ ?_<;>intro hs|exact⟨⟩|fail)
   ·rw[hok,Bool.true_and] at he
    clear hr
    repeat' (first|refine wk ?_|refine fk ?_ ?_<;>intro hs|exact⟨⟩|fail)
    exact hrec (i+1,m,g) _ _ _ ⟨hm,hg0,by dsimp only;omega,he⟩ (by dsimp only;omega) ⟨rfl,congrArg (fun z=>some (AV.int .i64 z)) (by dsimp only;omega),trivial⟩ rfl
  ·have hc:decide ((i:Int)<sp.defs.length)=false:=decide_eq_false (by omega)
   rw[List.drop_eq_nil_of_le hge,bodies] at he
   rw[he] at h
   clear hrec he
   repeat' (first|refine wk ?_|refine fk ?_ ?_<;>intro hs|exact⟨⟩|fail)
end Go.Ab.X
namespace Go.Ab
open Go
set_option maxHeartbeats 1000000
def Fg (n:Nat)(l:List (Nat×AV))(b:Nat→AV)(ds:List (AV×List AV))(rc:Option AV):Fr:=⟨(Fl n l b).tmps,ds,rc⟩
section
variable {E:Env}{n:Nat}{le:List (Nat×AV)}{be:Nat→AV}{ds:List (AV×List AV)}{rc:Option AV}{s:Sto}
theorem Fg_put' {d:Tmp}{v:AV}:(Fg n le be ds rc).put (some d) v=Fg n ((d,v) :: le) be ds rc:=by
 have h:=congrArg Fr.tmps (yAH (n:=n) (d:=d) (l:=le) (b:=be) (v:=v))
 show(⟨lset v (Fl n le be).tmps d,ds,rc⟩:Fr)=⟨(Fl n ((d,v) :: le) be).tmps,ds,rc⟩
 rw[← h];rfl
theorem Fg_putN {v:AV}:(Fg n le be ds rc).put none v=Fg n le be ds rc:=(rfl)
theorem Fg_get {t:Nat}:lget (Fg n le be ds rc).tmps t=if t<n then at_ t le be else undef:=yAI
theorem Fg_tmp {t:Nat}:zAD (Fg n le be ds rc) (.tmp t)=some (if t<n then at_ t le be else undef):=by
 show some (lget (Fl n le be).tmps t)=_;rw[yAI]
theorem Fg_const {v:Value}:zAD (Fg n le be ds rc) (.const v)=ofConst v:=(rfl)
theorem Fg_func {g:FuncId}:zAD (Fg n le be ds rc) (.func g)=some (.func 0 (.func g) [] []):=(rfl)
theorem Fg_defers:(Fg n le be ds rc).defers=ds:=(rfl)
theorem zG8 {fr fr':Fr}(h:fr.tmps=fr'.tmps):∀l:List ResultVar,zDG E fr s l=zDG E fr' s l
 | []=>rfl
 | .tmp t :: r=>by unfold zDG;rw[h,zG8 h r]
 | .cell a t :: r=>by unfold zDG;rw[h,zG8 h r]
theorem resV_g {rs:List ResultVar}:resV E (Fg n le be ds rc) s rs=resV E (Fl n le be) s rs:=by
 unfold resV;rw[zG8 (fr:=Fg n le be ds rc) (fr':=Fl n le be) rfl]
theorem bindF {t:Tmp}{ts:List Tmp}{a:AV}{as':List AV}:zFC (Fl n le be).tmps (t :: ts) (a :: as')=zFC (Fl n ((t,a) :: le) be).tmps ts as':=by
 have h:=congrArg Fr.tmps (yAH (n:=n) (d:=t) (l:=le) (b:=be) (v:=a))
 rw[← h];rfl
theorem bindN:zFC (Fl n le be).tmps [] []=some (Fl n le be).tmps:=(rfl)
end
def finM (E:Env)(rs:List ResultVar)(md:Mode)(base:Nat)(s0:Sto)(Qc:CR→Sto→Prop):Out→Fr→Sto→Prop
 | .panic _,_,_=>False
 | .exit _,_,_=>False
 | .goto _,_,_=>False
 | _,fr,s=>(fr.defers=[]∧FN md.iso base s0 Qc (zH5 md.rawRes s (resV E fr s rs)))∨∃k,fr.defers=[(.ptr k 0,[])]∧s.get k=.mark∧FN md.iso base s0 Qc (zH5 md.rawRes (s.put k .dead) (resV E fr (s.put k .dead) rs))
section
variable {E:Env}{f:FuncId}{fn:Func}{base:Nat}{s0 s:Sto}{Qc:CR→Sto→Prop}
attribute [local semireducible] FN in
theorem FN_run {iso raw ra ml:Bool}{fr:Fr}(h:FN iso base s0 Qc (zH5 raw s (resV E fr s fn.results.toList))) :
  ∃cr s2,leave E fn ⟨iso,ra,raw,ml⟩ false base s0 fr (some (none,s))=some (cr,false,s2)∧Qc cr s2:=by
 unfold FN at h
 split at h
 ·rename_i v s1 hx
  have h1:result0 E fn ⟨iso,ra,raw,ml⟩ fr s=some (v,s1):=by
   unfold result0
   rw[resV_eq]
   unfold zH5 at hx
   split at hx
   ·rename_i a ha;rw[ha];exact hx
   ·cases hx
  cases iso with
  | true=>
   have h:top v=0∧Qc (.ret v) s0:=h
   refine⟨.ret v,s0,?_,h.2⟩
   simp only[leave,h1,zI7,h.1,cond_true,Nat.beq_refl]
  | false=>
   refine⟨.ret v,_,?_,h⟩
   simp only[leave,h1];rfl
 ·cases h
theorem finM_run {rs:List ResultVar}{md:Mode}{o:Out}{fr:Fr}(hr:fn.results.toList=rs)(h:finM E rs md base s0 Qc o fr s)(n:Nat) :
  ∃cr s2,behind (iter E n) E fn md none base s0 (some (o,fr,s))=some (cr,false,s2)∧Qc cr s2:=by
 subst hr
 obtain⟨iso,ra,raw,ml⟩:=md
 have key:∀o,modeOut o=some none→((fr.defers=[]∧FN iso base s0 Qc (zH5 raw s (resV E fr s fn.results.toList)))∨∃k,fr.defers=[(.ptr k 0,[])]∧s.get k=.mark∧FN iso base s0 Qc (zH5 raw (s.put k .dead) (resV E fr (s.put k .dead) fn.results.toList)))→
   ∃cr s2,behind (iter E n) E fn ⟨iso,ra,raw,ml⟩ none base s0 (some (o,fr,s))=some (cr,false,s2)∧Qc cr s2:=by
  intro o ho h
  rcases h with⟨h1,h2⟩|⟨k,h1,h2,h3⟩
  ·obtain⟨cr,s2,e,hq⟩:=FN_run (ra:=ra) (ml:=ml) h2
   refine⟨cr,s2,?_,hq⟩
   simp only[behind,ho,h1,zBY,Option.isSome,Bool.false_and]
   exact e
  ·obtain⟨cr,s2,e,hq⟩:=FN_run (ra:=ra) (ml:=ml) h3
   refine⟨cr,s2,?_,hq⟩
   simp only[behind,ho,h1,zBY,h2,Option.isSome,Bool.false_and]
   exact e
 cases o with
 | normal=>exact key _ rfl h
 | ret=>exact key _ rfl h
 | panic v=>cases h
 | exit v=>cases h
 | goto v=>cases h
attribute [local semireducible] C W in
theorem C_isoM {body:Code}{args args1:List AV}{s s1:Sto}{md:Mode}{rs:List ResultVar}(hi:E.intr f args=none)(hns:insM E f args s none=none)(hfn:E.funcs f=some fn)(hb:fn.body=some body)(hmd:E.mode f=md)
  (hm:md.iso=true) (hr:fn.results.toList=rs) (ha:(bif md.rawArgs then some (args,s) else zBO s args)=some (args1,s1)) (ht:tops args1=0) (h:W E f none body (zNS fn args1) .empty (finM E rs md 0 s1 Qc)):C E f args s Qc:=by
 subst hmd
 obtain⟨n,o,fr',s',h1,h2⟩:=h
 obtain⟨cr,s2,h3,h4⟩:=finM_run hr h2 n
 refine⟨n+1,cr,false,s2,?_,h4⟩
 rw[zJH]
 unfold zHR zJY
 simp only[hi,hns,hfn,hb]
 have he:enter (iter E n) E f fn body (E.mode f) args1 none s1=some (cr,false,s2):=by
  unfold enter
  simp only[hm,cond_true,ht,Nat.beq_refl]
  rw[show(iter E n).exec f none body ⟨lapp args1 (lrep undef (fn.ntmps-llen args1)),[],none⟩ .empty=some (o,fr',s') from h1]
  exact h3
 cases hr:(E.mode f).rawArgs with
 | true=>rw[hr] at ha;cases ha;simp only[cond_true,mJoin];exact he
 | false=>rw[hr] at ha;simp only[cond_false] at ha ⊢;rw[ha];exact he
attribute [local semireducible] WP W in
theorem zQB {body:Code}{args args1:List AV}{s s1:Sto}{md:Mode}{rs:List ResultVar}{n:Nat}(hi:E.intr f args=none)(hns:insM E f args s none=none)(hfn:E.funcs f=some fn)(hb:fn.body=some body)(hmd:E.mode f=md)(hm:md.iso=true)(hn:fn.ntmps=n)(hr:fn.results.toList=rs)
  (ha:(bif md.rawArgs then some (args,s) else zBO s args)=some (args1,s1)) (hl:Nat.ble args1.length n=true) (ht:tops args1=0) (h:WP E f none body (Fl n (argL 0 args1) ub) (S 0 g0 []) (finM E rs md 0 s1 Qc)):C E f args s Qc:=by
 refine C_isoM hi hns hfn hb hmd hm hr ha ht ?_
 rw[zMH hn (Nat.le_of_ble_eq_true hl),S_empty]
 exact wp_sound h
end
section
variable {E:Env}{rs:List ResultVar}{md:Mode}{base m:Nat}{s0 s:Sto}{Qc:CR→Sto→Prop}{n:Nat}{le:List (Nat×AV)}{be:Nat→AV}{a b c d:Bool}{rc:Option AV}{g:Nat→Box}{u:List (Nat×Nat)}
theorem fM_ret0 (h:FN a base s0 Qc (zH5 c s (resV E (Fl n le be) s rs))):finM E rs ⟨a,b,c,d⟩ base s0 Qc .ret (Fl n le be) s:=.inl ⟨Fl_defers,h⟩
theorem zTK {k:Nat}(hk:k<m)(hg:g k=.mark)(h:FN a base s0 Qc (zH5 c (S m (updB g k .dead) u) (resV E (Fl n le be) (S m (updB g k .dead) u) rs))):finM E rs ⟨a,b,c,d⟩ base s0 Qc .ret (Fg n le be [(.ptr k 0,[])] rc) (S m g u):=by
 refine .inr ⟨k,rfl,by rw[zEY hk,hg],?_⟩
 rw[zIP hk,resV_g];exact h
end
def BQb (l base m:Nat)(Q:CR→Sto→Prop)(g:Nat→Box)(u:List (Nat×Nat))(o:Out)(bx:Box):Prop:=
 match bx with
 | .loop lb=>match o with
  | .normal=>Q (.ret (.bool true)) ((S m (updB g l (.loop ⟨0,none,lb.fn,lb.tmps,lb.params,lb.assign,lb.body⟩)) u).done base 0)
  | .ret=>Q (.ret (.bool false)) ((S m (updB g l (.loop ⟨2,some .ret,lb.fn,lb.tmps,lb.params,lb.assign,lb.body⟩)) u).done base 0)
  | .exit id=>Q (.ret (.bool false)) ((S m (updB g l (.loop ⟨2,some (.exit id),lb.fn,lb.tmps,lb.params,lb.assign,lb.body⟩)) u).done base 0)
  | .panic v=>Q (.panic v) ((S m g u).done base (top v))
  | _=>False
 | _=>False
def BQ (l base:Nat)(Q:CR→Sto→Prop)(o:Out)(fr:Fr)(s:Sto):Prop:=fr.defers=[]∧∃m g u,s=S m g u∧l<m∧BQb l base m Q g u o (g l)
def AQb (E:Env)(fid:FuncId)(l base m:Nat)(body:Code)[Tk body](Q:CR→Sto→Prop)(g:Nat→Box)(u:List (Nat×Nat))(fr:Fr)(bx:Box):Prop:=
 match bx with
 | .loop lb=>lb.state=0∧WP E fid (some l) body fr (S m (updB g l (.loop ⟨1,lb.pending,lb.fn,lb.tmps,lb.params,lb.assign,lb.body⟩)) u) (BQ l base Q)
 | _=>False
def AQ (E:Env)(fid:FuncId)(l base:Nat)(body:Code)[Tk body](Q:CR→Sto→Prop)(o:Out)(fr:Fr)(s:Sto):Prop:=o=.normal∧∃m g u,s=S m g u∧l<m∧AQb E fid l base m body Q g u fr (g l)
attribute [local semireducible] R W WP in
theorem yAE {E:Env}{l m:Nat}{g g1:Nat→Box}{u:List (Nat×Nat)}{pd:Option Code}{fid:FuncId}{ps:List Tmp}{asn body:Code}{n:Nat}{le le1:List (Nat×AV)}{be:Nat→AV}{args args':List AV}{Q:CR→Sto→Prop}
  (hl:l<m) (hg:g l=.loop ⟨0,pd,fid,(Fl n le be).tmps,ps,asn,body⟩) (hs:zBO (S m g u) args=some (args',S m g1 u)) (hb:zFC (Fl n le be).tmps ps args'=some (Fl n le1 be).tmps)
  (ha:WP E fid (some l) asn (Fg n le1 be [] (some (.tuple []))) (S m g1 u) (AQ E fid l m body Q)):R E l args (S m g u) Q:=by
 obtain⟨n1,o,fr1,s1,e1,hA⟩:=wp_sound (rnd:=some l) ha
 obtain⟨rfl,m1,g1',u1,rfl,hl1,hA⟩:=hA
 unfold AQb at hA
 split at hA
 ·rename_i lb hlb
  obtain⟨h0,hA⟩:=hA
  obtain⟨n2,o2,fr2,s2,e2,hB⟩:=wp_sound (rnd:=some l) hA
  obtain⟨hd,m2,g2,u2,rfl,hl2,hB⟩:=hB
  have key:∃cr s',zGL l m o2 fr2 (S m2 g2 u2)=some (cr,s')∧Q cr s':=by
   unfold BQb at hB
   split at hB
   ·rename_i lb2 hlb2
    cases o2 with
    | normal=>exact⟨_,_,by unfold zGL;rw[hd,zEY hl2,hlb2];simp only[List.isEmpty_nil,Bool.not_true,cond_false,endRound,zIP hl2];rfl,hB⟩
    | ret=>exact⟨_,_,by unfold zGL;rw[hd,zEY hl2,hlb2];simp only[List.isEmpty_nil,Bool.not_true,cond_false,endRound,zIP hl2];rfl,hB⟩
    | exit id=>exact⟨_,_,by unfold zGL;rw[hd,zEY hl2,hlb2];simp only[List.isEmpty_nil,Bool.not_true,cond_false,endRound,zIP hl2];rfl,hB⟩
    | panic v=>exact⟨_,_,by unfold zGL;rw[hd,zEY hl2,hlb2];simp only[List.isEmpty_nil,Bool.not_true,cond_false],hB⟩
    | goto l=>cases hB
   ·cases hB
  obtain⟨cr,s',e3,hq⟩:=key
  refine⟨n1+n2,cr,s',?_,hq⟩
  unfold zFA
  simp only[zEY hl,hg,hs,hb]
  rw[show(iter E (n1+n2)).exec fid (some l) asn ⟨(Fl n le1 be).tmps,[],some (.tuple [])⟩ (S m g1 u)=_ from zJ0 e1 (Nat.le_add_right n1 n2)]
  simp only[zIX,zEY hl1,hlb,h0,Nat.beq_refl,cond_true,zIP hl1,S_n]
  rw[zJ0 e2 (Nat.le_add_left n2 n1)]
  exact e3
 ·cases hA
section
variable {E:Env}{fid:FuncId}{l base m:Nat}{body:Code}{Q:CR→Sto→Prop}{g:Nat→Box}{u:List (Nat×Nat)}{n:Nat}{le:List (Nat×AV)}{be:Nat→AV}{rc:Option AV}{fr:Fr}{pd:Option Code}{f':FuncId}{tm:List AV}{ps:List Tmp}{asn bo:Code}
theorem AQ_n (hl:l<m)(h:AQb E fid l base m body Q g u fr (g l)):AQ E fid l base body Q .normal fr (S m g u):=⟨rfl,m,g,u,rfl,hl,h⟩
theorem AQb_l (h:WP E fid (some l) body fr (S m (updB g l (.loop ⟨1,pd,f',tm,ps,asn,bo⟩)) u) (BQ l base Q)):AQb E fid l base m body Q g u fr (.loop ⟨0,pd,f',tm,ps,asn,bo⟩):=⟨rfl,h⟩
theorem BQ_i {o:Out}(hl:l<m)(h:BQb l base m Q g u o (g l)):BQ l base Q o (Fg n le be [] rc) (S m g u):=⟨rfl,m,g,u,rfl,hl,h⟩
theorem BQb_n {k:Nat}:BQb l base m Q g u .normal (.loop ⟨k,pd,f',tm,ps,asn,bo⟩)=Q (.ret (.bool true)) ((S m (updB g l (.loop ⟨0,none,f',tm,ps,asn,bo⟩)) u).done base 0):=(rfl)
theorem BQb_r {k:Nat}:BQb l base m Q g u .ret (.loop ⟨k,pd,f',tm,ps,asn,bo⟩)=Q (.ret (.bool false)) ((S m (updB g l (.loop ⟨2,some .ret,f',tm,ps,asn,bo⟩)) u).done base 0):=(rfl)
theorem BQb_e {k id:Nat}:BQb l base m Q g u (.exit id) (.loop ⟨k,pd,f',tm,ps,asn,bo⟩)=Q (.ret (.bool false)) ((S m (updB g l (.loop ⟨2,some (.exit id),f',tm,ps,asn,bo⟩)) u).done base 0):=(rfl)
end
def RQb (l:Nat)(Q:Out→Fr→Sto→Prop)(fr:Fr)(m:Nat)(g:Nat→Box)(u:List (Nat×Nat))(bx:Box):Prop:=
 match bx with
 | .loop lb=>lb.state≠1∧(match lb.pending with
  | none=>Q .normal fr (S m (updB g l .dead) u)
  | some .ret=>Q .ret fr (S m (updB g l .dead) u)
  | some (.exit id)=>Q (.exit id) fr (S m (updB g l .dead) u)
  | _=>False)
 | _=>False
def RQ (l:Nat)(Q:Out→Fr→Sto→Prop)(fr:Fr):CR→Sto→Prop
 | .ret _,s=>∃m g u,s=S m g u∧l<m∧RQb l Q fr m g u (g l)
 | .panic v,s=>Q (.panic v) fr s
attribute [local semireducible] LO C W Fl F in
theorem LO_range {E:Env}{f:FuncId}{x:Operand}{ps:Array Tmp}{asn body:Code}{n m:Nat}{le:List (Nat×AV)}{be:Nat→AV}{g:Nat→Box}{u:List (Nat×Nat)}{Q:Out→Fr→Sto→Prop}{t:Nat}{h:FuncId}{a b:List AV}
  (hx:zAD (Fl n le be) x=some (.func t (.func h) a b))
  (hc:C E h (a++([.func (m+2) (.yield (m+1)) [] []]++b)) (S (m+2) (updB (updB g m .mark) (m+1) (.loop ⟨0,none,f,(Fl n le be).tmps,ps.toList,asn,body⟩)) u) (RQ (m+1) Q (Fg n le be [(.ptr m 0,[])] none))) :
  LO E f none (.rangeFunc x ps asn body) (Fl n le be) (S m g u) Q:=by
 obtain⟨k,cr,bb,s',e,hq⟩:=hc
 have e2:∀r:Rec,zJ9 r f none (zAD (Fl n le be) x) ps.toList asn body (Fl n le be) (S m g u)=endLoop (m+1) (Fg n le be [(.ptr m 0,[])] none) (r.call h (a++([.func (m+2) (.yield (m+1)) [] []]++b)) none (S (m+2) (updB (updB g m .mark) (m+1) (.loop ⟨0,none,f,(Fl n le be).tmps,ps.toList,asn,body⟩)) u)):=by
  intro r
  rw[hx]
  have e0:zJ9 r f none (some (AV.func t (.func h) a b)) ps.toList asn body (Fl n le be) (S m g u)=zGM r f (.func t (.func h) a b) ps.toList asn body ⟨(Fl n le be).tmps,(.ptr (S m g u).n 0,[]) :: (Fl n le be).defers,(Fl n le be).rec_⟩ ((S m g u).alloc .mark):=rfl
  rw[e0]
  unfold zGM
  simp only[zJ6,S_n,zIM,zBP]
  rfl
 cases cr with
 | ret v=>
  obtain⟨m1,g1,u1,rfl,hl,hq⟩:=hq
  unfold RQb at hq
  split at hq
  ·rename_i lb hlb
   obtain⟨h1,hq⟩:=hq
   have hs:Nat.beq lb.state 1=false:=by
    cases hh:Nat.beq lb.state 1 with
    | false=>rfl
    | true=>exact absurd (Nat.eq_of_beq_eq_true hh) h1
   have hex:zCR (iter E k) E f none (.rangeFunc x ps asn body) (Fl n le be) (S m g u)=endLoop (m+1) (Fg n le be [(.ptr m 0,[])] none) (some (.ret v,bb,S m1 g1 u1)):=by
    show zJ9 (iter E k) f none (zAD (Fl n le be) x) ps.toList asn body (Fl n le be) (S m g u)=_
    rw[e2,e]
   split at hq
   ·rename_i hp
    exact W_mk (n:=k) (by rw[hex];unfold endLoop;simp only[zEY hl,hlb,hs,cond_false,hp,zIP hl]) hq
   ·rename_i hp
    exact W_mk (n:=k) (by rw[hex];unfold endLoop;simp only[zEY hl,hlb,hs,cond_false,hp,zIP hl]) hq
   ·rename_i id hp
    exact W_mk (n:=k) (by rw[hex];unfold endLoop;simp only[zEY hl,hlb,hs,cond_false,hp,zIP hl]) hq
   ·cases hq
  ·cases hq
 | panic v=>
  refine W_mk (n:=k) (o:=.panic v) (fr':=Fg n le be [(.ptr m 0,[])] none) (s':=s') ?_ hq
  show zJ9 (iter E k) f none (zAD (Fl n le be) x) ps.toList asn body (Fl n le be) (S m g u)=_
  rw[e2,e];rfl
theorem LO_rng {E:Env}{f:FuncId}{x:Operand}{ps:Array Tmp}{asn body:Code}{n m:Nat}{le:List (Nat×AV)}{be:Nat→AV}{g:Nat→Box}{u:List (Nat×Nat)}{Q:Out→Fr→Sto→Prop}{t:Nat}{h:FuncId}{a b:List AV}
  (hx:zAD (Fl n le be) x=some (.func t (.func h) a b))
  (hc:∀lb:LoopB,lb=⟨0,none,f,(Fl n le be).tmps,ps.toList,asn,body⟩→C E h (a++([.func (m+2) (.yield (m+1)) [] []]++b)) (S (m+2) (updB (updB g m .mark) (m+1) (.loop lb)) u) (RQ (m+1) Q (Fg n le be [(.ptr m 0,[])] none))) :
  LO E f none (.rangeFunc x ps asn body) (Fl n le be) (S m g u) Q:=LO_range hx (hc _ rfl)
section
variable {l m:Nat}{Q:Out→Fr→Sto→Prop}{fr:Fr}{g:Nat→Box}{u:List (Nat×Nat)}{f':FuncId}{tm:List AV}{ps:List Tmp}{asn bo:Code}{v:AV}
theorem RQ_i (hl:l<m)(h:RQb l Q fr m g u (g l)):RQ l Q fr (.ret v) (S m g u):=⟨m,g,u,rfl,hl,h⟩
theorem RQb_n (h:Q .normal fr (S m (updB g l .dead) u)):RQb l Q fr m g u (.loop ⟨0,none,f',tm,ps,asn,bo⟩):=⟨(fun e=>nomatch e),h⟩
theorem RQb_r (h:Q .ret fr (S m (updB g l .dead) u)):RQb l Q fr m g u (.loop ⟨2,some .ret,f',tm,ps,asn,bo⟩):=⟨(fun e=>nomatch e),h⟩
theorem RQb_e {id:Nat}(h:Q (.exit id) fr (S m (updB g l .dead) u)):RQb l Q fr m g u (.loop ⟨2,some (.exit id),f',tm,ps,asn,bo⟩):=⟨(fun e=>nomatch e),h⟩
end
attribute [go_sem] Fg_put' Fg_putN Fg_get Fg_tmp Fg_const Fg_func Fg_defers resV_g bindF bindN BQb_n BQb_r BQb_e
attribute [irreducible] Fg finM AQ AQb BQ BQb RQ RQb
end Go.Ab
namespace Pl
mutual
def nodesV:V→Int→List (V×Int)
 | .mk k n ng d s l m,dp=>(.mk k n ng d s l m,dp) :: (nodesVs l (dp+1)++nodesVs m (dp+1))
def nodesVs:List V→Int→List (V×Int)
 | [],_=>[]
 | v :: r,dp=>nodesV v dp++nodesVs r dp
end
theorem zXT (v:V)(dp:Int):nodesV v dp=(v,dp) :: (nodesVs v.l (dp+1)++nodesVs v.m (dp+1)):=by cases v;rfl
def runS {α σ:Type}(step:σ→α→Bool×σ):σ→List α→Bool×σ
 | a,[]=>(true,a)
 | a,x :: r=>match step a x with
  | (true,b)=>runS step b r
  | (false,b)=>(false,b)
theorem zS3 {α σ:Type}(step:σ→α→Bool×σ):∀(l r:List α) (a:σ),runS step a (l++r)=match runS step a l with|(true,b)=>runS step b r|(false,b)=>(false,b)
 | [],r,a=>rfl
 | x :: l,r,a=>by
  rw[List.cons_append,runS,runS]
  obtain⟨t,b⟩:=step a x
  cases t with
  | true=>exact zS3 step l r b
  | false=>rfl
theorem zS2 {α σ:Type}{step:σ→α→Bool×σ}{I:σ→Prop}(hI:∀a y,I a→(step a y).1=true→I (step a y).2):∀(l:List α) (a:σ),I a→(runS step a l).1=true→I (runS step a l).2
 | [],a,h,_=>h
 | x :: l,a,h,ht=>by
  have:=hI a x h
  rw[runS] at ht ⊢
  generalize step a x=st at *
  obtain⟨t,b⟩:=st
  cases t with
  | true=>exact zS2 hI l b (this rfl) ht
  | false=>cases ht
end Pl
namespace Go.Ab
theorem zSA {t:Nat}{f:FuncId}{a b args:List AV}{s:Sto}:zIM (.func t (.func f) a b) args s=.call f (a++(args++b)) s:=by simp only[zIM,zBP]
theorem callV_y {t l:Nat}{b args:List AV}{s:Sto}:zIM (.func t (.yield l) [] b) args s=.round l args s:=(rfl)
theorem flat_V (a:Pl.V):flatC (zAW a)=true:=(rfl)
attribute [go_sem] zSA callV_y flat_V
end Go.Ab
namespace Go.Ab.X
open Go Go.Ab Go.Proofs Pl
set_option maxRecDepth 100000
set_option maxHeartbeats 1000000
def slVs (l:List V):AV:=.sl 0 (l.map encV) .shut
attribute [go_sem] slVs
theorem c165 {v:V}{m:Nat}{g:Nat→Box}{u:List (Nat×Nat)}{Q:CR→Sto→Prop}(h:Q (.ret (.func (m+1) (.func 221) [] [.ptr m 0])) (S (m+1) (updB g m (.cells 32 (zAW v))) u)):C E1 165 [encV v] (S m g u) Q:=by
 have hT:∀g u,(S (m+1) g u).done m (Nat.succ m)=S (m+1) g u:=fun _ _=>zHT (Nat.lt_succ_self m)
 refine cn ⟨false,false,false,false⟩ Tryz.f165 4 [.tmp 2] ?_
 repeat' (first|refine wk ?_|refine fk ?_ ?_<;>intro hs|exact⟨⟩|fail)
theorem c222 {σ:Type}{step:σ→V×Int→Bool×σ}{G:σ→(Nat→Box)→Prop}{l b0:Nat}{P:V→Int→Prop}{I:σ→Prop}(hI:∀a y,I a→(step a y).1=true→I (step a y).2)(hG:∀a g g',G a g→(∀k,k<b0→g' k=g k)→G a g')
  (hR:∀a x d m g,I a→P x d→G a g→b0≤m→∀Q:CR→Sto→Prop,(∀g',G (step a (x,d)).2 g'→(∀k,b0≤k→k<m→g' k=g k)→Q (.ret (.bool (step a (x,d)).1)) (S m g' []))→R E1 l [encV x,.int .i64 d] (S m g []) Q) :
  ∀(n:Nat) (v:V)(d:Int),szV v<n→szV v<1073741824→0≤d→d+szV v<2147483648→(∀y∈nodesV v d,P y.1 y.2)→∀(a:σ)(m ky kw:Nat) (g:Nat→Box),I a→G a g→b0≤ky→ky<m→b0≤kw→kw<m→g ky=.cells 123 [.func (l+1) (.yield l) [] []]→g kw=.cells 123 [.func (kw+1) (.func 222) [] [.ptr ky 0,.ptr kw 0]]→
   ∀Q:CR→Sto→Prop,(∀g',G (runS step a (nodesV v d)).2 g'→(∀k,b0≤k→k<m→g' k=g k)→Q (.ret (.bool (runS step a (nodesV v d)).1)) (S m g' []))→C E1 222 [encV v,.int .i64 d,.ptr ky 0,.ptr kw 0] (S m g []) Q:=by
 intro n
 induction n with
 | zero=>intro v d h;exact absurd h (Nat.not_lt_zero _)
 | succ n ih=>
  intro v d hn hsz hd0 hd hP a m ky kw g hIa hGa hky1 hky2 hkw1 hkw2 hy hw Q h
  have hu:zAQ m []=true:=rfl
  have hu2:zAJ m []=[]:=rfl
  rw[zXT] at h hP
  rw[runS] at h
  have hPv:P v d:=hP _ (List.mem_cons_self ..)
  generalize hG1:updB g m (.cells 32 (zAW v))=g1
  have hy1:g1 ky=.cells 123 [.func (l+1) (.yield l) [] []]:=by rw[← hG1,zAA (by omega)];exact hy
  have hw1:g1 kw=.cells 123 [.func (kw+1) (.func 222) [] [.ptr ky 0,.ptr kw 0]]:=by rw[← hG1,zAA (by omega)];exact hw
  have hv1:g1 m=.cells 32 (zAW v):=by rw[← hG1];exact zAB
  have hGa1:G a g1:=hG _ _ _ hGa fun k hk=>by rw[← hG1,zAA (by omega)]
  have hlow:∀k,b0≤k→k<m→g1 k=g k:=fun k _ hk=>by rw[← hG1,zAA (by omega)]
  have hr:=hR a v d (m+1) g1 hIa hPv hGa1 (by omega)
  have hI1:=hI a (v,d) hIa
  refine cn ⟨false,false,false,false⟩ Tryz.f222 40 [.tmp 6] ?_
  repeat' (first|refine hr _ ?_|refine wk ?_|refine fk ?_ ?_<;>intro hs|exact⟨⟩|fail)
  intro g2 hGa2 hlow2
  clear hr
  generalize step a (v,d)=st at *
  obtain⟨b1,a1⟩:=st
  dsimp only at h hGa2
  have hv2:g2 m=.cells 32 (zAW v):=by rw[hlow2 m (by omega) (by omega)];exact hv1
  have hy2:g2 ky=.cells 123 [.func (l+1) (.yield l) [] []]:=by rw[hlow2 ky (by omega) (by omega)];exact hy1
  have hw2:g2 kw=.cells 123 [.func (kw+1) (.func 222) [] [.ptr ky 0,.ptr kw 0]]:=by rw[hlow2 kw (by omega) (by omega)];exact hw1
  have hlow3:∀k,b0≤k→k<m→g2 k=g k:=fun k h1 h2=>by rw[hlow2 k h1 (by omega)];exact hlow k h1 h2
  clear hlow2 hlow hy1 hw1 hv1 hGa1 hG1 hGa
  cases b1
  ·repeat' (first|refine wk ?_|refine fk ?_ ?_<;>intro hs|exact⟨⟩|fail)
  ·dsimp only at h
   have hVl:=zD2 v
   have hd1:∀{x:V} {l:List V},x∈l→(l=v.l∨l=v.m)→szV x<szV v:=fun hx hl=>by have:=szVs_mem hx;rcases hl with rfl|rfl<;>omega
   obtain⟨ls,hls⟩:∃ls:List (List V),ls=[v.l,v.m]:=⟨_,rfl⟩
   have hlen:ls.length=2:=by rw[hls];rfl
   have hmem:∀l∈ls,l=v.l∨l=v.m:=by rw[hls];intro l hl;simpa using hl
   have hRR:nodesVs v.l (d+1)++nodesVs v.m (d+1)=ls.flatMap (fun l=>nodesVs l (d+1)):=by rw[hls];simp
   have hPr:∀l∈ls,∀y∈nodesVs l (d+1),P y.1 y.2:=by
    intro l hl y hy
    refine hP y (List.mem_cons_of_mem _ ?_)
    rw[hRR]
    exact List.mem_flatMap.2 ⟨l,hl,hy⟩
   rw[hRR] at h
   generalize hR0:runS step a1 (ls.flatMap (fun l=>nodesVs l (d+1)))=R0 at h
   have hI1:=hI1 rfl
   clear hR hP hPv hRR
   repeat' (first|refine wk ?_|refine fk ?_ ?_<;>intro hs|exact⟨⟩|fail)
   refine zAF (ι:=Nat×σ×Nat×(Nat→Box)) (fun p=>[(1,.int .i64 d),(3,.ptr kw 0),(20,.sl 0 (ls.map slVs) .clip),(21,.int .i64 2),(22,.int .i64 p.1)]) (fun p=>S p.2.2.1 p.2.2.2 [])
    (fun p=>p.1≤ls.length∧I p.2.1∧G p.2.1 p.2.2.2∧m+1≤p.2.2.1∧p.2.2.2 ky=.cells 123 [.func (l+1) (.yield l) [] []]∧p.2.2.2 kw=.cells 123 [.func (kw+1) (.func 222) [] [.ptr ky 0,.ptr kw 0]]∧(∀k,b0≤k→k<m→p.2.2.2 k=g k)∧runS step p.2.1 ((ls.drop p.1).flatMap (fun l=>nodesVs l (d+1)))=R0)
    (fun p=>ls.length-p.1) ?_ (0,a1,m+1,g2) ⟨Nat.zero_le _,hI1,hGa2,Nat.le_refl _,hy2,hw2,hlow3,hR0⟩ ⟨rfl,rfl,by rw[hls];rfl,rfl,rfl,trivial⟩ rfl
   clear hGa2 hlow3 hy2 hw2 hv2 hR0 hls
   rintro⟨i,a2,m2,g3⟩ b ⟨hi,hI2,hGa,hm,hy3,hw3,hlo,hrun⟩ hrec
   dsimp only at hi hI2 hGa hm hy3 hw3 hlo hrun hrec ⊢
   have hkw3:kw<m2:=by omega
   rcases Nat.lt_or_ge i ls.length with hlt|hge
   ·have hc:decide ((i:Int)<2)=true:=decide_eq_true (by omega)
    have hx:ls[i]?=some ls[i]:=List.getElem?_eq_getElem hlt
    have hmi:=hmem _ (List.getElem_mem hlt)
    have hPi:=hPr _ (List.getElem_mem hlt)
    rw[List.drop_eq_getElem_cons hlt,List.flatMap_cons] at hrun
    generalize ls[i]=l0 at *
    have hl0:l0.length<1073741824:=by have h1:=szVs_len v.l;have h2:=szVs_len v.m;rcases hmi with rfl|rfl<;>omega
    repeat' (first|refine wk ?_|refine fk ?_ ?_<;>intro hs|exact⟨⟩|fail)
    refine zAF (ι:=Nat×σ×Nat×(Nat→Box)) (fun p=>[(1,.int .i64 d),(3,.ptr kw 0),(20,.sl 0 (ls.map slVs) .clip),(21,.int .i64 2),(22,.int .i64 i),(26,slVs l0),(27,.int .i64 l0.length),(28,.int .i64 p.1)]) (fun p=>S p.2.2.1 p.2.2.2 [])
     (fun p=>p.1≤l0.length∧I p.2.1∧G p.2.1 p.2.2.2∧m+1≤p.2.2.1∧p.2.2.2 ky=.cells 123 [.func (l+1) (.yield l) [] []]∧p.2.2.2 kw=.cells 123 [.func (kw+1) (.func 222) [] [.ptr ky 0,.ptr kw 0]]∧(∀k,b0≤k→k<m→p.2.2.2 k=g k)∧runS step p.2.1 (nodesVs (l0.drop p.1) (d+1)++(ls.drop (i+1)).flatMap (fun l=>nodesVs l (d+1)))=R0)
     (fun p=>l0.length-p.1) ?_ (0,a2,m2,g3) ⟨Nat.zero_le _,hI2,hGa,hm,hy3,hw3,hlo,hrun⟩ ⟨rfl,rfl,rfl,rfl,rfl,rfl,rfl,rfl,trivial⟩ rfl
    clear hGa hI2 hlo hy3 hw3 hrun hm hkw3
    clear m2 g3 a2
    rintro⟨j,a2,m2,g3⟩ b ⟨hj,hI2,hGa,hm,hy3,hw3,hlo,hrun⟩ hrec2
    dsimp only at hj hI2 hGa hm hy3 hw3 hlo hrun hrec2 ⊢
    have hkw3:kw<m2:=by omega
    have hkw4:kw<m2+1:=by omega
    have hkw5:kw≠m2:=by omega
    have hmm2:m≤m2:=by omega
    have hmm3:m≤m2+1:=by omega
    rcases Nat.lt_or_ge j l0.length with hjl|hjg
    ·have hcj:decide ((j:Int)<l0.length)=true:=decide_eq_true (by omega)
     have hxj:l0[j]?=some l0[j]:=List.getElem?_eq_getElem hjl
     have hsx:=hd1 (List.getElem_mem hjl) hmi
     have hPj:∀y∈nodesV l0[j] (d+1),P y.1 y.2:=fun y hy=>hPi y (by
      rw[← List.take_append_drop j l0,List.drop_eq_getElem_cons hjl]
      have:∀(p q:List V),nodesVs (p++q) (d+1)=nodesVs p (d+1)++nodesVs q (d+1):=fun p q=>by induction p with|nil=>rfl|cons a p ih=>rw[List.cons_append,nodesVs,nodesVs,ih,List.append_assoc]
      rw[this,nodesVs]
      exact List.mem_append_right _ (List.mem_append_left _ hy))
     rw[List.drop_eq_getElem_cons hjl,nodesVs,List.append_assoc,zS3] at hrun
     generalize l0[j]=x at *
     have hcall:=ih x (d+1) (by omega) (by omega) (by omega) (by omega) hPj a2 (m2+1) ky kw (updB g3 m2 (.cells 32 (zAW x))) hI2 (hG _ _ _ hGa fun k hk=>zAA (by omega)) hky1 (by omega) hkw1 (by omega) (by rw[zAA (by omega)];exact hy3) (by rw[zAA (by omega)];exact hw3)
     clear hPj hPi hPr ih
     repeat' (first|refine hcall _ ?_|refine wk ?_|refine fk ?_ ?_<;>intro hs|exact⟨⟩|fail)
     intro g4 hG4 hl4
     have hl5:∀k,b0≤k→k<m→g4 k=g k:=fun k h1 h2=>by rw[hl4 k h1 (by omega),zAA (by omega)];exact hlo k h1 h2
     have hy4:g4 ky=.cells 123 [.func (l+1) (.yield l) [] []]:=by rw[hl4 ky hky1 (by omega),zAA (by omega)];exact hy3
     have hw4:g4 kw=.cells 123 [.func (kw+1) (.func 222) [] [.ptr ky 0,.ptr kw 0]]:=by rw[hl4 kw hkw1 (by omega),zAA (by omega)];exact hw3
     have hI3:=zS2 hI (nodesV x (d+1)) a2 hI2
     clear hl4 hcall hy3 hw3 hlo hGa
     generalize runS step a2 (nodesV x (d+1))=st2 at *
     obtain⟨b2,a3⟩:=st2
     dsimp only at hrun hG4
     cases b2 with
     | true=>
      clear h hrec
      have hI3:=hI3 rfl
      dsimp only at hrun hI3
      repeat' (first|refine wk ?_|refine fk ?_ ?_<;>intro hs|exact⟨⟩|fail)
      exact hrec2 (j+1,a3,m2+1,g4) _ _ _ ⟨hjl,hI3,hG4,by dsimp only;omega,hy4,hw4,hl5,hrun⟩ (by dsimp only;omega) ⟨rfl,rfl,rfl,rfl,rfl,rfl,rfl,congrArg (fun z=>some (AV.int .i64 z)) (by dsimp only;omega),trivial⟩ rfl
     | false=>
      clear hrec hrec2
      dsimp only at hrun
      rw[← hrun] at h
      dsimp only at h
      repeat' (first|refine wk ?_|refine fk ?_ ?_<;>intro hs|exact⟨⟩|fail)
      all_goals exact h g4 hG4 hl5
    ·have hcj:decide ((j:Int)<l0.length)=false:=decide_eq_false (by omega)
     clear hrec2
     rw[List.drop_eq_nil_of_le hjg,nodesVs,List.nil_append] at hrun
     repeat' (first|refine wk ?_|refine fk ?_ ?_<;>intro hs|exact⟨⟩|fail)
     exact hrec (i+1,a2,m2,g3) _ _ _ ⟨hlt,hI2,hGa,hm,hy3,hw3,hlo,hrun⟩ (by dsimp only;omega) ⟨rfl,rfl,rfl,rfl,congrArg (fun z=>some (AV.int .i64 z)) (by dsimp only;omega),trivial⟩ rfl
   ·have hc:decide ((i:Int)<2)=false:=decide_eq_false (by omega)
    rw[List.drop_eq_nil_of_le hge,List.flatMap_nil,runS] at hrun
    clear hrec
    rw[← hrun] at h
    dsimp only at h
    repeat' (first|refine wk ?_|refine fk ?_ ?_<;>intro hs|exact⟨⟩|fail)
    all_goals exact h g3 hGa hlo
end Go.Ab.X
namespace Go.Ab.X
open Go Go.Ab Go.Proofs Pl
set_option maxRecDepth 100000
set_option maxHeartbeats 1000000
theorem c221 {σ:Type}{step:σ→V×Int→Bool×σ}{G:σ→(Nat→Box)→Prop}{l b0:Nat}{P:V→Int→Prop}{I:σ→Prop}(hI:∀a y,I a→(step a y).1=true→I (step a y).2)(hG:∀a g g',G a g→(∀k,k<b0→g' k=g k)→G a g')
  (hR:∀a x d m g,I a→P x d→G a g→b0≤m→∀Q:CR→Sto→Prop,(∀g',G (step a (x,d)).2 g'→(∀k,b0≤k→k<m→g' k=g k)→Q (.ret (.bool (step a (x,d)).1)) (S m g' []))→R E1 l [encV x,.int .i64 d] (S m g []) Q)
  {v:V} (hsz:szV v<1073741824) (hP:∀y∈nodesV v 1,P y.1 y.2) {a:σ} {m mv:Nat} {g:Nat→Box} (hIa:I a) (hGa:G a g) (hb:b0≤m) (hmv:mv<m) (hl:l<m) (hgv:g mv=.cells 32 (zAW v))
  {Q:CR→Sto→Prop} (h:∀g',G (runS step a (nodesV v 1)).2 g'→(∀k,b0≤k→k<m→g' k=g k)→Q (.ret (.tuple [])) (S m g' [])):C E1 221 [.func (l+1) (.yield l) [] [],.ptr mv 0] (S m g []) Q:=by
 have hu:zAQ m []=true:=rfl
 have hu2:zAJ m []=[]:=rfl
 have hcall:=c222 (l:=l) hI hG hR (szV v+1) v 1 (by omega) hsz (by omega) (by omega) hP a (m+2) m (m+1) (updB (updB g m (.cells 123 [.func (l+1) (.yield l) [] []])) (m+1) (.cells 123 [.func (m+1+1) (.func 222) [] [.ptr m 0,.ptr (m+1) 0]])) hIa
  (hG _ _ _ hGa fun k hk=>by rw[zAA (by omega),zAA (by omega)]) hb (by omega) (by omega) (by omega) (by rw[zAA (by omega),zAB]) zAB
 clear hR
 have hmx:(m+1).max (m+1+1)=m+1+1:=Nat.max_eq_right (by omega)
 refine cn ⟨false,false,false,false⟩ Tryz.f221 8 [] ?_
 repeat' (first|refine hcall _ ?_|refine wk ?_|refine fk ?_ ?_<;>intro hs|exact⟨⟩|fail)
 intro g2 hG2 hl2
 have hl3:∀k,b0≤k→k<m→g2 k=g k:=fun k h1 h2=>by rw[hl2 k h1 (by omega),zAA (by omega),zAA (by omega)]
 repeat' (first|refine wk ?_|refine fk ?_ ?_<;>intro hs|exact⟨⟩|fail)
 all_goals exact h g2 hG2 hl3
def zC5 (most deepest:Int)(a:Int×Int×Bool)(y:V×Int):Bool×Int×Int×Bool:=
 if most<a.1+1∨deepest<y.2 then(false,a.1+1,max a.2.1 y.2,true) else(true,a.1+1,max a.2.1 y.2,false)
def szG (most deepest:Int)(lb:LoopB)(a:Int×Int×Bool)(g:Nat→Box):Prop:=
 g 1=.cells 3 [.int .i64 most]∧g 2=.cells 3 [.int .i64 deepest]∧g 3=.cells 3 [.int .i64 a.1]∧g 4=.cells 3 [.int .i64 a.2.1]∧g 6=.mark∧
  g 7=.loop ⟨if a.2.2=true then 2 else 0,if a.2.2=true then some (.exit 0) else none,lb.fn,lb.tmps,lb.params,lb.assign,lb.body⟩
theorem c220 {v:V}{most deepest:Int}{s:Sto}(hm:0≤most∧most<1073741824)(hsz:szV v<1073741824){Q:CR→Sto→Prop}(h:Q (.ret (.tuple [.int .i64 (runS (zC5 most deepest) (0,0,false) (nodesV v 1)).2.1,.int .i64 (runS (zC5 most deepest) (0,0,false) (nodesV v 1)).2.2.1])) s):C E1 220 [encV v,.int .i64 most,.int .i64 deepest] s Q:=by
 refine zQB (md:=⟨true,false,false,false⟩) (fn:=Tryz.f220) (n:=31) (rs:=[.tmp 6,.tmp 7]) rfl rfl rfl rfl rfl rfl rfl rfl (by simp only[go_sem, *];try rfl) (by rfl) (by simp only[go_sem]) ?_
 repeat' (first|apply c165|refine wk ?_|refine fk ?_ ?_<;>intro hs|exact⟨⟩|fail)
 refine LO_rng (by simp only[go_sem];rfl) ?_
 intro lb hlb
 have hR:∀a x d m g,(a.2.2=false∧0≤a.1∧a.1≤most)→True→szG most deepest lb a g→8≤m→∀Q:CR→Sto→Prop,(∀g',szG most deepest lb (zC5 most deepest a (x,d)).2 g'→(∀k,8≤k→k<m→g' k=g k)→Q (.ret (.bool (zC5 most deepest a (x,d)).1)) (S m g' []))→R E1 7 [encV x,.int .i64 d] (S m g []) Q:=by
  clear h
  rintro⟨many,gr,bk⟩ x d m g ⟨hbk,h0,h1⟩ - ⟨g1,g2,g3,g4,g6,g7⟩ hm8 Q hQ
  subst hlb
  dsimp only at hbk h0 h1 g3 g4 g7
  subst hbk
  have hub:zAQ m []=true:=rfl
  have hub2:zAJ m []=[]:=rfl
  refine yAE (by omega) g7 (by simp only[go_sem];rfl) (by simp only[bindF,bindN];rfl) ?_
  repeat' (first|refine AQ_n (by omega) ?_|refine AQb_l ?_|refine BQ_i (by omega) ?_|refine wk ?_|refine fk ?_ ?_<;>intro hs|exact⟨⟩|fail)
  ·have hst:zC5 most deepest (many,gr,false) (x,d)=(false,many+1,max gr d,true):=by unfold zC5;rw[if_pos (by clear hQ g7;simp only[Bool.or_eq_true,decide_eq_true_eq] at hs;exact hs)]
   rw[hst] at hQ
   exact hQ _ ⟨(by(repeat (first|rw[zAB]|rw[zAA (by decide)]));try assumption;try rfl),(by(repeat (first|rw[zAB]|rw[zAA (by decide)]));try assumption;try rfl),(by(repeat (first|rw[zAB]|rw[zAA (by decide)]));try assumption;try rfl),(by(repeat (first|rw[zAB]|rw[zAA (by decide)]));try assumption;try rfl),(by(repeat (first|rw[zAB]|rw[zAA (by decide)]));try assumption;try rfl),(by dsimp only;rw[if_pos rfl,if_pos rfl,zAB])⟩ (fun k h1 h2=>by(repeat rw[zAA (by omega)]))
  ·have hst:zC5 most deepest (many,gr,false) (x,d)=(true,many+1,max gr d,false):=by unfold zC5;rw[if_neg (by clear hQ g7;omega)]
   rw[hst] at hQ
   exact hQ _ ⟨(by(repeat (first|rw[zAB]|rw[zAA (by decide)]));try assumption;try rfl),(by(repeat (first|rw[zAB]|rw[zAA (by decide)]));try assumption;try rfl),(by(repeat (first|rw[zAB]|rw[zAA (by decide)]));try assumption;try rfl),(by(repeat (first|rw[zAB]|rw[zAA (by decide)]));try assumption;try rfl),(by(repeat (first|rw[zAB]|rw[zAA (by decide)]));try assumption;try rfl),(by dsimp only;rw[if_neg Bool.false_ne_true,if_neg Bool.false_ne_true,zAB])⟩ (fun k h1 h2=>by(repeat rw[zAA (by omega)]))
 have hI:∀(a:Int×Int×Bool) (y:V×Int),(a.2.2=false∧0≤a.1∧a.1≤most)→(zC5 most deepest a y).1=true→((zC5 most deepest a y).2.2.2=false∧0≤(zC5 most deepest a y).2.1∧(zC5 most deepest a y).2.1≤most):=by
  rintro⟨a,b,c⟩ y ⟨h1,h2,h3⟩ ht
  unfold zC5 at ht ⊢
  dsimp only at h1 h2 h3 ht ⊢
  split at ht
  ·cases ht
  ·rename_i hn;rw[if_neg hn];exact⟨rfl,by dsimp only;omega,by dsimp only;omega⟩
 have hG:∀a g g',szG most deepest lb a g→(∀k,k<8→g' k=g k)→szG most deepest lb a g':=by
  rintro a g g' ⟨g1,g2,g3,g4,g6,g7⟩ hk
  exact⟨by rw[hk 1 (by omega),g1],by rw[hk 2 (by omega),g2],by rw[hk 3 (by omega),g3],by rw[hk 4 (by omega),g4],by rw[hk 6 (by omega),g6],by rw[hk 7 (by omega),g7]⟩
 have h0:szG most deepest lb (0,0,false) (updB (updB (updB (updB (updB (updB (updB (updB (updB (updB g0 0 (Box.cells 32 (zAW v))) 1 (Box.cells 3 [AV.int IntKind.i64 most])) 2 (Box.cells 3 [AV.int IntKind.i64 deepest])) 3 (Box.cells 3 [AV.int IntKind.i64 0])) 4 (Box.cells 3 [AV.int IntKind.i64 0])) 3 (Box.cells 3 [AV.int IntKind.i64 0])) 4 (Box.cells 3 [AV.int IntKind.i64 0])) 5 (Box.cells 32 (zAW v))) 6 Box.mark) 7 (Box.loop lb)):=by
  refine⟨(by(repeat (first|rw[zAB]|rw[zAA (by decide)]));try assumption;try rfl),(by(repeat (first|rw[zAB]|rw[zAA (by decide)]));try assumption;try rfl),(by(repeat (first|rw[zAB]|rw[zAA (by decide)]));try assumption;try rfl),(by(repeat (first|rw[zAB]|rw[zAA (by decide)]));try assumption;try rfl),(by(repeat (first|rw[zAB]|rw[zAA (by decide)]));try assumption;try rfl),?_⟩
  rw[zAB,hlb]
  dsimp only
  rw[if_neg Bool.false_ne_true,if_neg Bool.false_ne_true]
 refine c221 (l:=7) (b0:=8) hI hG hR hsz (fun _ _=>trivial) (a:=(0,0,false)) (mv:=5) ⟨rfl,Int.le_refl _,hm.1⟩ h0 (Nat.le_refl _) (by decide) (by decide) (by(repeat (first|rw[zAB]|rw[zAA (by decide)]));try assumption;try rfl) ?_
 intro g2 hG2 hl2
 generalize runS (zC5 most deepest) (0,0,false) (nodesV v 1)=R at *
 obtain⟨b1,many,gr,bk⟩:=R
 obtain⟨g1,g2',g3,g4,g6,g7⟩:=hG2
 dsimp only at g3 g4 g7 h
 have hmk:updB g2 7 .dead 6=.mark:=by rw[zAA (by decide)];exact g6
 refine RQ_i (by decide) ?_
 rw[g7]
 cases bk with
 | true=>
  rw[if_pos rfl,if_pos rfl]
  refine RQb_e ?_
  repeat' (first|refine zTK (by omega) hmk ?_|refine wk ?_|refine fk ?_ ?_<;>intro hs|exact⟨⟩|fail)
 | false=>
  rw[if_neg Bool.false_ne_true,if_neg Bool.false_ne_true]
  refine RQb_n ?_
  repeat' (first|refine zTK (by omega) hmk ?_|refine wk ?_|refine fk ?_ ?_<;>intro hs|exact⟨⟩|fail)
end Go.Ab.X
namespace Pl
mutual
theorem nodesV_len:∀(v:V)(d:Int),(nodesV v d).length=cntV v
 | .mk k n ng dd s l m,d=>by simp only[nodesV,cntV,List.length_cons,List.length_append,nodesVs_len l,nodesVs_len m];omega
theorem nodesVs_len:∀(l:List V) (d:Int),(nodesVs l d).length=cntVs l
 | [],_=>rfl
 | v :: r,d=>by simp only[nodesVs,cntVs,List.length_append,nodesV_len v,nodesVs_len r]
end
mutual
theorem nodesV_dep:∀(v:V)(d D:Int),(∀y∈nodesV v d,y.2≤D)↔d+depV v-1≤D
 | .mk k n ng dd s l m,d,D=>by
  have h1:=nodesVs_dep l (d+1) D
  have h2:=nodesVs_dep m (d+1) D
  simp only[nodesV,depV,List.forall_mem_cons,List.forall_mem_append,h1,h2]
  omega
theorem nodesVs_dep:∀(l:List V) (d D:Int),(∀y∈nodesVs l d,y.2≤D)↔(depVs l=0∨d+depVs l-1≤D)
 | [],_,_=>by simp[nodesVs,depVs]
 | v :: r,d,D=>by
  have h1:=nodesV_dep v d D
  have h2:=nodesVs_dep r d D
  have hp:1≤depV v:=by cases v;simp only[depV];omega
  simp only[nodesVs,depVs,List.forall_mem_append,h1,h2]
  omega
end
mutual
theorem nodes_formed:∀(v:V)(d:Int),((nodesV v d).all fun y=>node y.1)=formed v
 | .mk k n ng dd s l m,d=>by simp only[nodesV,List.all_cons,List.all_append,formed,nodess_formed l,nodess_formed m,Bool.and_assoc]
theorem nodess_formed:∀(l:List V) (d:Int),((nodesVs l d).all fun y=>node y.1)=formedL l
 | [],_=>rfl
 | v :: r,d=>by simp only[nodesVs,List.all_append,formedL,nodes_formed v,nodess_formed r]
end
mutual
theorem nodesV_sz:∀(v:V)(d:Int),∀y∈nodesV v d,szV y.1≤szV v
 | .mk k n ng dd s l m,d,y,hy=>by
  simp only[nodesV,List.mem_cons,List.mem_append] at hy
  rcases hy with rfl|hy|hy
  ·exact Nat.le_refl _
  ·have:=nodesVs_sz l (d+1) y hy;simp only[szV];omega
  ·have:=nodesVs_sz m (d+1) y hy;simp only[szV];omega
theorem nodesVs_sz:∀(l:List V) (d:Int),∀y∈nodesVs l d,szV y.1≤szVs l
 | [],_,y,hy=>by simp only[nodesVs] at hy;cases hy
 | v :: r,d,y,hy=>by
  simp only[nodesVs,List.mem_append] at hy
  rcases hy with hy|hy
  ·have:=nodesV_sz v d y hy;simp only[szVs];omega
  ·have:=nodesVs_sz r d y hy;simp only[szVs];omega
end
theorem zS4 {α:Type}(q:α→Bool):∀l:List α,runS (fun(_:Bool) y=>(q y,!q y)) false l=(l.all q,!l.all q)
 | []=>rfl
 | x :: l=>by
  rw[runS,List.all_cons]
  cases h:q x with
  | true=>exact zS4 q l
  | false=>rfl
end Pl
namespace Go.Ab.X
open Go Go.Ab Go.Proofs Pl
set_option maxRecDepth 100000
set_option maxHeartbeats 1000000
theorem szRun {most deepest:Int}:∀(l:List (V×Int)) (k gr:Int),k≤most→gr≤deepest→
  (((runS (zC5 most deepest) (k,gr,false) l).2.1≤most∧(runS (zC5 most deepest) (k,gr,false) l).2.2.1≤deepest)↔(k+l.length≤most∧∀y∈l,y.2≤deepest))
 | [],k,gr,h1,h2=>by simp[runS,h1,h2]
 | y :: l,k,gr,h1,h2=>by
  rw[runS]
  by_cases hc:most<k+1∨deepest<y.2
  ·have hst:zC5 most deepest (k,gr,false) y=(false,k+1,max gr y.2,true):=by unfold zC5;rw[if_pos hc]
   rw[hst]
   simp only[List.length_cons,List.forall_mem_cons]
   constructor
   ·rintro⟨a,b⟩;omega
   ·rintro⟨a,b,c⟩;omega
  ·have hst:zC5 most deepest (k,gr,false) y=(true,k+1,max gr y.2,false):=by unfold zC5;rw[if_neg hc]
   rw[hst]
   dsimp only
   rw[szRun l (k+1) (max gr y.2) (by omega) (by omega)]
   simp only[List.length_cons,List.forall_mem_cons]
   exact⟨fun⟨a,b⟩=>⟨by omega,by omega,b⟩,fun⟨a,b,c⟩=>⟨by omega,c⟩⟩
theorem c164 {v:V}{s:Sto}(hsz:szV v<1073741824){Q:CR→Sto→Prop}(h:Q (.ret (.bool (decide (cntV v≤8000)&&decide (depV v≤50)))) s):C E1 164 [encV v] s Q:=by
 have e:(decide (cntV v≤8000)&&decide (depV v≤50))=(decide ((runS (zC5 8000 50) (0,0,false) (nodesV v 1)).2.1≤8000)&&decide ((runS (zC5 8000 50) (0,0,false) (nodesV v 1)).2.2.1≤50)):=by
  have:=szRun (most:=8000) (deepest:=50) (nodesV v 1) 0 0 (by omega) (by omega)
  rw[nodesV_len,nodesV_dep] at this
  rw[Bool.eq_iff_iff]
  simp only[Bool.and_eq_true,decide_eq_true_eq]
  rw[this]
  omega
 rw[e] at h
 clear e
 refine ci Tryz.f164 16 [.tmp 2] ?_
 repeat' (first|refine c220 (by omega) hsz ?_|refine wk ?_|refine fk ?_ ?_<;>intro hs|exact⟨⟩|fail)
def isG (lb:LoopB)(bk:Bool)(g:Nat→Box):Prop:=
 g 1=.cells 4 [.bool false]∧g 3=.mark∧g 4=.loop ⟨if bk=true then 2 else 0,if bk=true then some .ret else none,lb.fn,lb.tmps,lb.params,lb.assign,lb.body⟩
theorem c106 {v:V}{s:Sto}(hsz:szV v<1073741824){Q:CR→Sto→Prop}(h:Q (.ret (.bool (zBD v))) s):C E1 106 [encV v] s Q:=by
 unfold zBD at h
 have hfit:∀(s:Sto) (Q:CR→Sto→Prop),Q (.ret (.bool (decide (cntV v≤8000)&&decide (depV v≤50)))) s→C E1 164 [encV v] s Q:=fun s Q=>c164 hsz
 generalize (decide (cntV v≤8000)&&decide (depV v≤50))=ft at *
 rw[← nodes_formed v 1] at h
 refine zQB (md:=⟨true,false,false,false⟩) (fn:=Tryz.f106) (n:=14) (rs:=[.cell 2 4]) rfl rfl rfl rfl rfl rfl rfl rfl (by simp only[go_sem, *];try rfl) (by rfl) (by simp only[go_sem]) ?_
 repeat' (first|refine hfit _ _ ?_|apply c165|refine fM_ret0 ?_|refine wk ?_|refine fk ?_ ?_<;>intro hs|exact⟨⟩|fail)
 ·rw[hs,Bool.false_and] at h;exact h
 rw[hs,Bool.true_and] at h
 clear hs
 refine LO_rng (by simp only[go_sem];rfl) ?_
 intro lb hlb
 have hR:∀(a:Bool) (x:V)(d:Int) (m:Nat) (g:Nat→Box),a=false→szV x<1073741824→isG lb a g→5≤m→∀Q:CR→Sto→Prop,(∀g',isG lb (!node x) g'→(∀k,5≤k→k<m→g' k=g k)→Q (.ret (.bool (node x))) (S m g' []))→R E1 4 [encV x,.int .i64 d] (S m g []) Q:=by
  clear h hfit
  rintro bk x d m g hbk hx ⟨g1,g2,g3⟩ hm8 Q hQ
  subst hlb
  subst hbk
  dsimp only at g3
  have hub:zAQ m []=true:=rfl
  have hub2:zAJ m []=[]:=rfl
  have hmm:m≤m+1:=by omega
  refine yAE (by omega) g3 (by simp only[go_sem];rfl) (by simp only[bindF,bindN];rfl) ?_
  repeat' (first|refine c166 hx ?_|refine AQ_n (by omega) ?_|refine AQb_l ?_|refine BQ_i (by omega) ?_|refine wk ?_|refine fk ?_ ?_<;>intro hs|exact⟨⟩|fail)
  ·rw[hs] at hQ
   exact hQ _ ⟨(by(repeat (first|rw[zAB]|rw[zAA (by omega)]));try assumption;try rfl),(by(repeat (first|rw[zAB]|rw[zAA (by omega)]));try assumption;try rfl),(by rw[Bool.not_false,if_pos rfl,if_pos rfl,zAB])⟩ (fun k h1 h2=>by(repeat rw[zAA (by omega)]))
  ·rw[hs] at hQ
   exact hQ _ ⟨(by(repeat (first|rw[zAB]|rw[zAA (by omega)]));try assumption;try rfl),(by(repeat (first|rw[zAB]|rw[zAA (by omega)]));try assumption;try rfl),(by rw[Bool.not_true,if_neg Bool.false_ne_true,if_neg Bool.false_ne_true,zAB])⟩ (fun k h1 h2=>by(repeat rw[zAA (by omega)]))
 have hI:∀(a:Bool) (y:V×Int),a=false→node y.1=true→(!node y.1)=false:=fun a y _ h=>by rw[h];rfl
 have hG:∀a g g',isG lb a g→(∀k,k<5→g' k=g k)→isG lb a g':=by
  rintro a g g' ⟨g1,g2,g3⟩ hk
  exact⟨by rw[hk 1 (by omega),g1],by rw[hk 3 (by omega),g2],by rw[hk 4 (by omega),g3]⟩
 have h0:isG lb false (updB (updB (updB (updB (updB g0 0 (Box.cells 32 (zAW v))) 1 (Box.cells 4 [AV.bool false])) 2 (Box.cells 32 (zAW v))) 3 Box.mark) 4 (Box.loop lb)):=by
  refine⟨(by(repeat (first|rw[zAB]|rw[zAA (by omega)]));try assumption;try rfl),(by(repeat (first|rw[zAB]|rw[zAA (by omega)]));try assumption;try rfl),?_⟩
  rw[zAB,hlb,if_neg Bool.false_ne_true,if_neg Bool.false_ne_true]
 refine c221 (l:=4) (b0:=5) (step:=fun(_:Bool) (y:V×Int)=>(node y.1,!node y.1)) (P:=fun x _=>szV x<1073741824) (I:=fun a=>a=false) hI hG hR hsz (fun y hy=>Nat.lt_of_le_of_lt (nodesV_sz v 1 y hy) hsz) (a:=false) (mv:=2) rfl h0 (Nat.le_refl _) (by decide) (by decide) (by(repeat (first|rw[zAB]|rw[zAA (by omega)]));try assumption;try rfl) ?_
 intro g2 hG2 hl2
 rw[zS4 (fun y:V×Int=>node y.1)] at hG2
 generalize ((nodesV v 1).all fun y=>node y.fst)=R at *
 obtain⟨g1,g3,g4⟩:=hG2
 have hmk:updB g2 4 .dead 3=.mark:=by rw[zAA (by decide)];exact g3
 refine RQ_i (by decide) ?_
 rw[g4]
 cases R with
 | false=>
  rw[Bool.not_false,if_pos rfl,if_pos rfl]
  refine RQb_r ?_
  repeat' (first|refine zTK (by omega) hmk ?_|refine wk ?_|refine fk ?_ ?_<;>intro hs|exact⟨⟩|fail)
 | true=>
  rw[Bool.not_true,if_neg Bool.false_ne_true,if_neg Bool.false_ne_true]
  refine RQb_n ?_
  have hmk2:updB (updB g2 4 .dead) 1 (.cells 4 [.bool true]) 3=.mark:=by rw[zAA (by decide)];exact hmk
  repeat' (first|refine zTK (by omega) hmk2 ?_|refine wk ?_|refine fk ?_ ?_<;>intro hs|exact⟨⟩|fail)
theorem c57 {v:V}{s:Sto}(hsz:szV v<1073741824){Q:CR→Sto→Prop}(h:Q (.ret (.int .i64 (if zBD v=true then 0 else 4))) s):C E1 57 [encV v] s Q:=by
 refine ci Tryz.f57 6 [.tmp 2] ?_
 repeat' (first|refine c106 hsz ?_|refine wk ?_|refine fk ?_ ?_<;>intro hs|exact⟨⟩|fail)
 all_goals (rw[hs] at h;exact h)
end Go.Ab.X
namespace Go.Ab.X
open Go Go.Ab Go.Proofs Pl
set_option maxRecDepth 100000
set_option maxHeartbeats 1000000
def bldT (t:TypeId)(ps:List (Nat×AV))(s:Sto):Nx:=match(E1.types t).d with
 | .struct fs=>match zKG E1 fs (E1.types t).zero ps with|some cs=>.val (.agg cs) s|none=>.no
 | .array _ e=>match zKH (E1.types e).size (E1.types t).zero ps with|some cs=>.val (.agg cs) s|none=>.no
 | _=>.no
theorem build_32 (fr:Fr)(ps:List (Nat×Operand))(s:Sto):zDL E1 fr 32 ps s=(match zBW fr ps with|some ps=>bldT 32 ps s|none=>.no):=rfl
theorem bld_mdl (x:Str)(s:Sto):bldT 32 [(0,.int .i64 4),(3,.str x)] s=.val (.agg [.int .i64 4,.int .i64 0,.bool false,.sl 0 [] .nil,.str x,.sl 0 [] .nil,.sl 0 [] .nil]) s:=rfl
theorem pk_l7 (a b c d e f g:AV):pick1 (E1.types 32) [a,b,c,d,e,f,g] 0=some (.agg [a,b,c,d,e,f,g]):=rfl
theorem seal_mdl (x:Str)(s:Sto):zBC s (.agg [.int .i64 4,.int .i64 0,.bool false,.sl 0 [] .nil,.str x,.sl 0 [] .nil,.sl 0 [] .nil])=some (.agg [.int .i64 4,.int .i64 0,.bool false,.sl 0 [] .shut,.str x,.sl 0 [] .shut,.sl 0 [] .shut],s):=rfl
attribute [go_sem] build_32 bld_mdl pk_l7 seal_mdl
theorem S_hi {m k:Nat}{g:Nat→Box}{u:List (Nat×Nat)}{b:Box}(h:m≤k):S m (updB g k b) u=S m g u:=zMP fun j hj=>zAA (by omega)
attribute [go_sem] S_hi
theorem sl_cut {α:Type}{h:α→AV}{l:List α}{es:Nat}{s:Sto}:zIS es (.sl 0 (l.map h) .shut) none (some l.length) (some l.length) s=bif zKL es (l.map h) then some (.sl 0 (l.map h) .clip,s) else none:=by
 simp only[zIS,zJQ,zDY,zOJ,zCK,Nat.zero_le,decide_true,Nat.le_refl,Bool.true_and,Nat.beq_refl,cond_true]
 cases zKL es (l.map h) with
 | false=>rfl
 | true=>
  simp only[cond_true]
  unfold zJP
  rw[show Nat.beq 0 0=true from rfl,Nat.beq_refl];rfl
attribute [go_sem] sl_cut
def mdl (x:Str):V:=.mk 4 0 false [] x [] []
theorem mdl_sz (x:Str):szV (mdl x)=1+x.length:=by simp[mdl,szV,szVs]
theorem mdl_val (x:Str):zBD (mdl x)=zC7 x:=by
 simp[mdl,zBD,cntV,cntVs,depV,depVs,formed,formedL,node,V.kind,V.n,V.neg,V.d,V.s,V.l,V.m,zEP]
theorem mdl_enc (x:Str):AV.agg [.int .i64 4,.int .i64 0,.bool false,.sl 0 [] .shut,.str x,.sl 0 [] .shut,.sl 0 [] .shut]=encV (mdl x):=by rw[zFV];rfl
theorem c241 {x:Str}{s:Sto}{Q:CR→Sto→Prop}(h:Q (.ret (encV (mdl x))) s):C E1 241 [.str x] s Q:=by
 rw[← mdl_enc] at h
 refine ci Tryz.f241 5 [.cell 2 32] ?_
 repeat' (first|refine wk ?_|refine fk ?_ ?_<;>intro hs|exact⟨⟩|fail)
theorem c187 {x:Str}{s:Sto}(hl:x.length<1073741000){Q:CR→Sto→Prop}(h:Q (.ret (.bool (zC7 x))) s):C E1 187 [.str x] s Q:=by
 have hsz:szV (mdl x)<1073741824:=by rw[mdl_sz];omega
 rw[← mdl_val] at h
 refine ci Tryz.f187 7 [.tmp 2] ?_
 repeat' (first|refine c241 ?_|refine c57 hsz ?_|refine wk ?_|refine fk ?_ ?_<;>intro hs|exact⟨⟩|fail)
 exact zAX h (by(try clear hrec);(try clear h);by_cases hv:zBD (mdl x)=true<;>simp[hv])
theorem c141 {l:List Str}{s:Sto}(hl:lens l<1073741000){Q:CR→Sto→Prop}(h:Q (.ret (.bool (Pl.distinct [] l))) s):C E1 141 [.sl 0 (l.map AV.str) .shut] s Q:=by
 have h1:=lens_len l
 have hsz:∀x∈l,x.length<1073741000:=fun x hx=>by have:=lens_mem hx;omega
 refine ci Tryz.f141 23 [.tmp 2] ?_
 repeat' (first|refine wk ?_|refine fk ?_ ?_<;>intro hs|exact⟨⟩|fail)
 refine zAF (ι:=Nat) (fun i=>[(0,.sl 0 (l.map AV.str) .shut),(5,.sl 0 (l.map AV.str) .shut),(6,.int .i64 l.length),(7,.int .i64 i)]) (fun _=>S 0 g0 []) (fun i=>i≤(l).length∧Pl.distinct [] l=Pl.distinct (l.take i) (l.drop i)) (fun i=>(l).length-i) ?_ 0 ⟨Nat.zero_le _,by first|rfl|trivial|simp⟩ ⟨rfl,rfl,rfl,rfl,trivial⟩ rfl;rintro i b ⟨hi,he⟩ hrec;rcases Nat.lt_or_ge i (l).length with hlt|hge
 ·have htk:(l.take i).length<4611686018427387904:=by rw[List.length_take];omega
  have hi2:i≤l.length:=hi
  obtain⟨hx,hmem,hcnd⟩:=zF3 hlt;rw[List.drop_eq_getElem_cons hlt] at he
  rw[Pl.distinct,← List.take_succ_eq_append_getElem hlt] at he
  repeat' (first|refine c187 (hsz _ hmem) ?_|refine c188 htk ?_|refine wk ?_|refine fk ?_ ?_<;>intro hs|exact⟨⟩|fail)
  all_goals first|exact zAX h (by(try clear hrec);(try clear h);rw[he];grind)|exact hrec (i+1) _ _ _ ⟨hlt,by rw[he];clear h hrec;grind⟩ (by omega) ⟨rfl,rfl,rfl,rfl,trivial⟩ rfl
 ·have hcnd:=zDN hge;rw[List.drop_eq_nil_of_le hge] at he
  rw[Pl.distinct] at he
  repeat' (first|refine wk ?_|refine fk ?_ ?_<;>intro hs|exact⟨⟩|fail)
  exact zAX h (by(try clear hrec);(try clear h);rw[he])
theorem c140 {s:Sto}{n:Int}{Q:CR→Sto→Prop}(h:Q (.ret (.bool true)) s):C E1 140 [.int .i64 n] s Q:=by
 refine ci Tryz.f140 3 [.tmp 2] ?_
 repeat' (first|refine wk ?_|refine fk ?_ ?_<;>intro hs|exact⟨⟩|fail)
theorem c251 {l:List Int}{m:Nat}{g:Nat→Box}{u:List (Nat×Nat)}(hu:zAQ m u=true)(hu2:zAJ m u=u){Q:CR→Sto→Prop}(h:Q (.ret (.sl 0 (l.map iv) .clip)) (S m g u)):C E1 251 [.sl 0 (l.map iv) .shut] (S m g u) Q:=by
 refine cn ⟨false,false,true,false⟩ Tryz.f251 9 [.tmp 2] ?_
 repeat' (first|refine wk ?_|refine fk ?_ ?_<;>intro hs|exact⟨⟩|fail)
def primL:List Int:=[0,2,2,1,2,2,2,2,2,2,2,1,1,1,2,2,3,1,2,2]
theorem prim_enc:AV.sl 0 (primL.map iv) .shut=.sl 0 [.int .i64 0,.int .i64 2,.int .i64 2,.int .i64 1,.int .i64 2,.int .i64 2,.int .i64 2,.int .i64 2,.int .i64 2,.int .i64 2,.int .i64 2,.int .i64 1,.int .i64 1,.int .i64 1,.int .i64 2,.int .i64 2,.int .i64 3,.int .i64 1,.int .i64 2,.int .i64 2] .shut:=rfl
theorem c248 {s:Sto}{Q:CR→Sto→Prop}(h:Q (.ret (.sl 0 (primL.map iv) .shut)) s):C E1 248 [] s Q:=by
 rw[prim_enc] at h
 refine ci Tryz.f248 2 [.tmp 0] ?_
 repeat' (first|refine wk ?_|refine fk ?_ ?_<;>intro hs|exact⟨⟩|fail)
end Go.Ab.X
end
