/- The laws FnTreeOrder and FnTreeCycle return true whatever the input, and the input reads behind the call as before. No condition. -/
import Derived.Test.YtofcbmnplanmkaaGreatFoc10
import Derived.Test.YtofcbmnplanmkaaGreatFoc18
set_option maxHeartbeats 40000000
set_option linter.unusedSimpArgs false
set_option linter.unusedVariables false
namespace Go.Proofs.YtofcbmnplanmkaaGreat
open Go.Gh
open Nat (reduceEqDiff reduceLeDiff reduceAdd reduceLT)
open Int (reduceNe)
set_option maxRecDepth 20000
set_option linter.unusedSimpArgs false
set_option linter.unusedVariables false
theorem w10 (a b:List Int) (ha:a.length≤1000000000):Pu 10 [IS a,IS b] (· = B (decide (a=b))):=by
 refine ZV mxd i10 rfl (by simp) ?_;simp (maxSteps:=9^7) only [↓ S2,S2,Z5,↓reduceIte,reduceNe,reduceEqDiff,reduceCtorEq,reduceLeDiff,reduceAdd,reduceLT]
 by_cases hl:a.length=b.length
 ·((try refine qI ?_);(repeat ((first|with_reducible refine qU ?_ | simp only [Z6]);try simp (maxSteps:=9^7) +contextual only [↓ S2,S2,↓reduceIte,reduceNe,reduceEqDiff,reduceCtorEq,reduceLeDiff,reduceAdd,reduceLT,VQ,List.length_map,hl]));(try simp +contextual (disch:=omega) only [Z2,List.length_map,hl]);(with_reducible repeat' (first|intro h|refine And.intro (by omega) ?_ | refine exP (by omega) ?_ | apply And.intro)))
  all_goals try exact oF
  refine ZC mxd (ι:={ i:Nat // i≤a.length∧a.take i=b.take i }) (fun i=>[(0,IS a),(1,IS b),(5,I i.1)]) (fun _ => []) (fun i=>a.length-i.1) ⟨0,by simp⟩ (by simp [E2]) rfl ?_
  rintro ⟨i,hi,hp⟩
  dsimp only
  rcases nL i a.length with hlt|hge
  ·have hlb:i<b.length:=by omega
   by_cases he:a[i]=b[i]
   ·have he':=eq_true he
    ((try refine qI ?_);(repeat ((first|with_reducible refine qU ?_ | simp only [Z6]);try simp (maxSteps:=9^7) +contextual only [↓ S2,S2,↓reduceIte,reduceNe,reduceEqDiff,reduceCtorEq,reduceLeDiff,reduceAdd,reduceLT,VQ,List.length_map,he',decide_true]));(try simp +contextual (disch:=omega) only [Z2,List.length_map,he',decide_true]);(with_reducible repeat' (first|intro h|refine And.intro (by omega) ?_ | refine exP (by omega) ?_ | apply And.intro)))
    all_goals try exact oF
    exact nx ⟨i+1,by omega,by rw [List.take_add_one,List.take_add_one,hp,List.getElem?_eq_getElem hlt,List.getElem?_eq_getElem hlb,he]⟩ (by dsimp only;omega) (by simp [E2]) rfl
   ·have he':=eq_false he
    have hab:(a=b)=False:=eq_false fun e=>he (by subst e;rfl)
    ((try refine qI ?_);(repeat ((first|with_reducible refine qU ?_ | simp only [Z6]);try simp (maxSteps:=9^7) +contextual only [↓ S2,S2,↓reduceIte,reduceNe,reduceEqDiff,reduceCtorEq,reduceLeDiff,reduceAdd,reduceLT,VQ,List.length_map,he',hab,decide_false]));(try simp +contextual (disch:=omega) only [Z2,List.length_map,he',hab,decide_false]);(with_reducible repeat' (first|intro h|refine And.intro (by omega) ?_ | refine exP (by omega) ?_ | apply And.intro)))
    all_goals try exact oF
  ·have hab:(a=b)=True:=eq_true (by rwa [tL (by omega),tL (by omega)] at hp)
   ((try refine qI ?_);(repeat ((first|with_reducible refine qU ?_ | simp only [Z6]);try simp (maxSteps:=9^7) +contextual only [↓ S2,S2,↓reduceIte,reduceNe,reduceEqDiff,reduceCtorEq,reduceLeDiff,reduceAdd,reduceLT,VQ,List.length_map,hab,decide_true]));(try simp +contextual (disch:=omega) only [Z2,List.length_map,hab,decide_true]);(with_reducible repeat' (first|intro h|refine And.intro (by omega) ?_ | refine exP (by omega) ?_ | apply And.intro)))
   all_goals try exact oF
 ·have hl':((a.length:Int)=b.length)=False:=eq_false (by omega)
  have hab:(a=b)=False:=eq_false fun e=>hl (by subst e;rfl)
  ((try refine qI ?_);(repeat ((first|with_reducible refine qU ?_ | simp only [Z6]);try simp (maxSteps:=9^7) +contextual only [↓ S2,S2,↓reduceIte,reduceNe,reduceEqDiff,reduceCtorEq,reduceLeDiff,reduceAdd,reduceLT,VQ,List.length_map,hl',hab,decide_false]));(try simp +contextual (disch:=omega) only [Z2,List.length_map,hl',hab,decide_false]);(with_reducible repeat' (first|intro h|refine And.intro (by omega) ?_ | refine exP (by omega) ?_ | apply And.intro)))
  all_goals try exact oF
theorem w18 (l:List Int) (x:Int) (hl:l.length≤1000000000):Pu 18 [IS l,I x] (· = I ((l.filter fun y=>decide (y=x)).length : Nat)):=by
 refine ZV mxd i18 rfl (by simp) ?_;simp (maxSteps:=9^7) only [↓ S2,S2,Z5,↓reduceIte,reduceNe,reduceEqDiff,reduceCtorEq,reduceLeDiff,reduceAdd,reduceLT]
 ((try refine qI ?_);(repeat ((first|with_reducible refine qU ?_ | simp only [Z6]);try simp (maxSteps:=9^7) +contextual only [↓ S2,S2,↓reduceIte,reduceNe,reduceEqDiff,reduceCtorEq,reduceLeDiff,reduceAdd,reduceLT,VQ,]));(try simp +contextual (disch:=omega) only [Z2,]);(with_reducible repeat' (first|intro h|refine And.intro (by omega) ?_ | refine exP (by omega) ?_ | apply And.intro)))
 refine ZC mxd (ι:={ i:Nat // i≤l.length }) (fun i=>[(0,IS l),(1,I x),(5,I (((l.take i.1).filter fun y=>decide (y=x)).length : Nat)),(6,I i.1)]) (fun _ => []) (fun i=>l.length-i.1) ⟨0,by simp⟩ (by simp [E2]) rfl ?_
 rintro ⟨i,hi⟩
 dsimp only
 have hf:((l.take i).filter fun y=>decide (y=x)).length ≤ l.length:=Nat.le_trans (List.length_filter_le _ _) (by rw [List.length_take];omega)
 rcases nL i l.length with hlt|hge
 ·have e:((l.take (i+1)).filter fun y=>decide (y=x)).length = ((l.take i).filter fun y=>decide (y=x)).length + (if l[i]=x then 1 else 0):=by
   rw [List.take_add_one,List.getElem?_eq_getElem hlt,List.filter_append,List.length_append]
   by_cases h:l[i]=x<;>simp [h]
  by_cases he:l[i]=x
  ·have he':=eq_true he
   rw [if_pos he] at e
   ((try refine qI ?_);(repeat ((first|with_reducible refine qU ?_ | simp only [Z6]);try simp (maxSteps:=9^7) +contextual only [↓ S2,S2,↓reduceIte,reduceNe,reduceEqDiff,reduceCtorEq,reduceLeDiff,reduceAdd,reduceLT,VQ,he',decide_true]));(try simp +contextual (disch:=omega) only [Z2,he',decide_true]);(with_reducible repeat' (first|intro h|refine And.intro (by omega) ?_ | refine exP (by omega) ?_ | apply And.intro)))
   all_goals try exact oF
   exact nx ⟨i+1,by omega⟩ (by dsimp only;omega) (by simp [E2,e]) rfl
  ·have he':=eq_false he
   rw [if_neg he] at e
   ((try refine qI ?_);(repeat ((first|with_reducible refine qU ?_ | simp only [Z6]);try simp (maxSteps:=9^7) +contextual only [↓ S2,S2,↓reduceIte,reduceNe,reduceEqDiff,reduceCtorEq,reduceLeDiff,reduceAdd,reduceLT,VQ,he',decide_false]));(try simp +contextual (disch:=omega) only [Z2,he',decide_false]);(with_reducible repeat' (first|intro h|refine And.intro (by omega) ?_ | refine exP (by omega) ?_ | apply And.intro)))
   all_goals try exact oF
   exact nx ⟨i+1,by omega⟩ (by dsimp only;omega) (by simp [E2,e]) rfl
 ·obtain rfl:i=l.length:=by omega
  rw [List.take_length]
  ((try refine qI ?_);(repeat ((first|with_reducible refine qU ?_ | simp only [Z6]);try simp (maxSteps:=9^7) +contextual only [↓ S2,S2,↓reduceIte,reduceNe,reduceEqDiff,reduceCtorEq,reduceLeDiff,reduceAdd,reduceLT,VQ,]));(try simp +contextual (disch:=omega) only [Z2,]);(with_reducible repeat' (first|intro h|refine And.intro (by omega) ?_ | refine exP (by omega) ?_ | apply And.intro)))
  all_goals try exact oF
theorem w14 (l:List Int) (x:Int) (hl:l.length≤1000000000):Pu 14 [IS l,I x] (· = B (Zj l x)):=by
 have e:Zj l x=decide ((0:Int)<((l.filter fun y=>decide (y=x)).length : Nat)):=by
  rw [Bool.eq_iff_iff,YB,decide_eq_true_eq]
  constructor
  ·intro h
   have:0<(l.filter fun y=>decide (y=x)).length := List.length_pos_of_mem (List.mem_filter.2 ⟨h,by simp⟩)
   omega
  ·intro h
   have h1:0<(l.filter fun y=>decide (y=x)).length := by omega
   obtain ⟨y,hy⟩:=List.exists_mem_of_length_pos h1
   have:=List.mem_filter.1 hy
   simp only [decide_eq_true_eq] at this
   rw [←this.2];exact this.1
 rw [e]
 refine ZV mxd i14 rfl (by simp) ?_;simp (maxSteps:=9^7) only [↓ S2,S2,Z5,↓reduceIte,reduceNe,reduceEqDiff,reduceCtorEq,reduceLeDiff,reduceAdd,reduceLT]
 ((try refine qI ?_);(repeat ((first|with_reducible refine qU ?_ | simp only [Z6]);try simp (maxSteps:=9^7) +contextual only [↓ S2,S2,↓reduceIte,reduceNe,reduceEqDiff,reduceCtorEq,reduceLeDiff,reduceAdd,reduceLT,VQ,]));(try simp +contextual (disch:=omega) only [Z2,]);(with_reducible repeat' (first|intro h|refine And.intro (by omega) ?_ | refine exP (by omega) ?_ | apply And.intro)))
 refine callS.eq (w18 l x hl) ?_
 ((try refine qI ?_);(repeat ((first|with_reducible refine qU ?_ | simp only [Z6]);try simp (maxSteps:=9^7) +contextual only [↓ S2,S2,↓reduceIte,reduceNe,reduceEqDiff,reduceCtorEq,reduceLeDiff,reduceAdd,reduceLT,VQ,]));(try simp +contextual (disch:=omega) only [Z2,]);(with_reducible repeat' (first|intro h|refine And.intro (by omega) ?_ | refine exP (by omega) ?_ | apply And.intro)))
theorem w7 (bs:List UInt8) (hb:bs.length≤1048576):Pu 7 [Bs bs] (fun v=>∃g t,drG g∧bentT t∧v = .tup [Gr g,Tr t]):=by
 refine ZV mxd i7 rfl (by simp) ?_;simp (maxSteps:=9^7) only [↓ S2,S2,Z5,↓reduceIte,reduceNe,reduceEqDiff,reduceCtorEq,reduceLeDiff,reduceAdd,reduceLT]
 (((try refine qI ?_);(repeat ((first|with_reducible refine qU ?_ | simp only [Z6]);try simp (maxSteps:=9^7) only [↓ S2,S2,Z5,↓reduceIte,reduceNe,reduceEqDiff,reduceCtorEq,reduceLeDiff,reduceAdd,reduceLT,Z9,Z8,Z7]));(try simp +contextual (disch:=omega) only [Z2,Z9,Z8,Z7]);(with_reducible repeat' (first|intro h|refine And.intro (by omega) ?_ | refine exP (by omega) ?_ | apply And.intro)));(repeat' (have h:=Z4 h;simp only [Z0,ZY,Z1,ZZ,and_true,true_and] at h;((try refine qI ?_);(repeat ((first|with_reducible refine qU ?_ | simp only [Z6]);try simp (maxSteps:=9^7) only [↓ S2,S2,Z5,↓reduceIte,reduceNe,reduceEqDiff,reduceCtorEq,reduceLeDiff,reduceAdd,reduceLT,Z9,Z8,Z7,h]));(try simp +contextual (disch:=omega) only [Z2,Z9,Z8,Z7,h]);(with_reducible repeat' (first|intro h|refine And.intro (by omega) ?_ | refine exP (by omega) ?_ | apply And.intro))))))
 refine callS.of ((w34 bs hb).frame _) ?_
 rintro _ _ ⟨⟨g,t,hg,ht,rfl⟩,rfl⟩ _
 (((try refine qI ?_);(repeat ((first|with_reducible refine qU ?_ | simp only [Z6]);try simp (maxSteps:=9^7) only [↓ S2,S2,Z5,↓reduceIte,reduceNe,reduceEqDiff,reduceCtorEq,reduceLeDiff,reduceAdd,reduceLT,Z9,Z8,Z7]));(try simp +contextual (disch:=omega) only [Z2,Z9,Z8,Z7]);(with_reducible repeat' (first|intro h|refine And.intro (by omega) ?_ | refine exP (by omega) ?_ | apply And.intro)));(repeat' (have h:=Z4 h;simp only [Z0,ZY,Z1,ZZ,and_true,true_and] at h;((try refine qI ?_);(repeat ((first|with_reducible refine qU ?_ | simp only [Z6]);try simp (maxSteps:=9^7) only [↓ S2,S2,Z5,↓reduceIte,reduceNe,reduceEqDiff,reduceCtorEq,reduceLeDiff,reduceAdd,reduceLT,Z9,Z8,Z7,h]));(try simp +contextual (disch:=omega) only [Z2,Z9,Z8,Z7,h]);(with_reducible repeat' (first|intro h|refine And.intro (by omega) ?_ | refine exP (by omega) ?_ | apply And.intro))))))
 exact ⟨g,t,hg,ht,rfl⟩
theorem w3 (bs:List UInt8):Pu 3 [Bs bs] (· = B true):=by
 refine ZV mxd i3 rfl (by simp) ?_;simp (maxSteps:=9^7) only [↓ S2,S2,Z5,↓reduceIte,reduceNe,reduceEqDiff,reduceCtorEq,reduceLeDiff,reduceAdd,reduceLT]
 ((try refine qI ?_);(repeat ((first|with_reducible refine qU ?_ | simp only [Z6]);try simp (maxSteps:=9^7) +contextual only [↓ S2,S2,↓reduceIte,reduceNe,reduceEqDiff,reduceCtorEq,reduceLeDiff,reduceAdd,reduceLT,VQ,]));(try simp +contextual (disch:=omega) only [Z2,]);(with_reducible repeat' (first|intro h|refine And.intro (by omega) ?_ | refine exP (by omega) ?_ | apply And.intro)))
 refine callS.eq (w6 bs) ?_
 by_cases hb:(1048576:Int)<bs.length
 ·have hb':=eq_true hb
  ((try refine qI ?_);(repeat ((first|with_reducible refine qU ?_ | simp only [Z6]);try simp (maxSteps:=9^7) +contextual only [↓ S2,S2,↓reduceIte,reduceNe,reduceEqDiff,reduceCtorEq,reduceLeDiff,reduceAdd,reduceLT,VQ,hb',decide_true]));(try simp +contextual (disch:=omega) only [Z2,hb',decide_true]);(with_reducible repeat' (first|intro h|refine And.intro (by omega) ?_ | refine exP (by omega) ?_ | apply And.intro)))
 ·have hb':=eq_false hb
  ((try refine qI ?_);(repeat ((first|with_reducible refine qU ?_ | simp only [Z6]);try simp (maxSteps:=9^7) +contextual only [↓ S2,S2,↓reduceIte,reduceNe,reduceEqDiff,reduceCtorEq,reduceLeDiff,reduceAdd,reduceLT,VQ,hb',decide_false]));(try simp +contextual (disch:=omega) only [Z2,hb',decide_false]);(with_reducible repeat' (first|intro h|refine And.intro (by omega) ?_ | refine exP (by omega) ?_ | apply And.intro)))
  refine callS.of ((w7 bs (by omega)).frame _) ?_
  rintro _ _ ⟨⟨g,t,hg,ht,rfl⟩,rfl⟩ _
  have hsm:=drG_sm hg
  obtain ⟨hl,hk,_⟩:=bentT_sm ht
  have hT:=tabI_ok hsm t
  have q1:=q8 g t hsm hl hk
  have q2:=q9 g t hsm hl hk
  have q3:=q11 g t hsm hl hk
  have q4:=q12 g t hsm hl hk
  have q5:=q13 g t hsm hl hk
  have hil:(insL g t).length = (ZD g t).length := by simp [ZD]
  have hTl:=hT.1
  have hol:=ordL_le (ZD g t)
  have hoi:=order_iff hT
  have hoa:=order_all hT
  have hoat:=fun k h=>order_at hT (k:=k) h
  generalize hL:insL g t=IL at *
  generalize ZD g t=T at *
  generalize cyL T T.length=cy at *
  generalize Y5 T=O at *
  generalize ordB T=ob at *
  ((try refine qI ?_);(repeat ((first|with_reducible refine qU ?_ | simp only [Z6]);try simp (maxSteps:=9^7) +contextual only [↓ S2,S2,↓reduceIte,reduceNe,reduceEqDiff,reduceCtorEq,reduceLeDiff,reduceAdd,reduceLT,VQ,]));(try simp +contextual (disch:=omega) only [Z2,]);(with_reducible repeat' (first|intro h|refine And.intro (by omega) ?_ | refine exP (by omega) ?_ | apply And.intro)))
  refine callS.eq q1 ?_
  ((try refine qI ?_);(repeat ((first|with_reducible refine qU ?_ | simp only [Z6]);try simp (maxSteps:=9^7) +contextual only [↓ S2,S2,↓reduceIte,reduceNe,reduceEqDiff,reduceCtorEq,reduceLeDiff,reduceAdd,reduceLT,VQ,]));(try simp +contextual (disch:=omega) only [Z2,]);(with_reducible repeat' (first|intro h|refine And.intro (by omega) ?_ | refine exP (by omega) ?_ | apply And.intro)))
  refine callS.eq q2 ?_
  ((try refine qI ?_);(repeat ((first|with_reducible refine qU ?_ | simp only [Z6]);try simp (maxSteps:=9^7) +contextual only [↓ S2,S2,↓reduceIte,reduceNe,reduceEqDiff,reduceCtorEq,reduceLeDiff,reduceAdd,reduceLT,VQ,]));(try simp +contextual (disch:=omega) only [Z2,]);(with_reducible repeat' (first|intro h|refine And.intro (by omega) ?_ | refine exP (by omega) ?_ | apply And.intro)))
  refine callS.eq (w10 O O (by omega)) ?_
  rw [show decide (O=O)=true by simp]
  ((try refine qI ?_);(repeat ((first|with_reducible refine qU ?_ | simp only [Z6]);try simp (maxSteps:=9^7) +contextual only [↓ S2,S2,↓reduceIte,reduceNe,reduceEqDiff,reduceCtorEq,reduceLeDiff,reduceAdd,reduceLT,VQ,]));(try simp +contextual (disch:=omega) only [Z2,]);(with_reducible repeat' (first|intro h|refine And.intro (by omega) ?_ | refine exP (by omega) ?_ | apply And.intro)))
  refine callS.eq q3 ?_
  have hoi':((cy.length:Int)=0)=(cy.length=0):=by simp
  cases ob
  ·have hc0:(cy.length=0)=False:=by simpa using hoi.symm
   ((try refine qI ?_);(repeat ((first|with_reducible refine qU ?_ | simp only [Z6]);try simp (maxSteps:=9^7) +contextual only [↓ S2,S2,↓reduceIte,reduceNe,reduceEqDiff,reduceCtorEq,reduceLeDiff,reduceAdd,reduceLT,VQ,hoi',hc0,decide_false]));(try simp +contextual (disch:=omega) only [Z2,hoi',hc0,decide_false]);(with_reducible repeat' (first|intro h|refine And.intro (by omega) ?_ | refine exP (by omega) ?_ | apply And.intro)))
   all_goals try exact oF
   refine callS.eq q4 ?_
   ((try refine qI ?_);(repeat ((first|with_reducible refine qU ?_ | simp only [Z6]);try simp (maxSteps:=9^7) +contextual only [↓ S2,S2,↓reduceIte,reduceNe,reduceEqDiff,reduceCtorEq,reduceLeDiff,reduceAdd,reduceLT,VQ,]));(try simp +contextual (disch:=omega) only [Z2,]);(with_reducible repeat' (first|intro h|refine And.intro (by omega) ?_ | refine exP (by omega) ?_ | apply And.intro)))
   refine callS.eq q5 ?_
   ((try refine qI ?_);(repeat ((first|with_reducible refine qU ?_ | simp only [Z6]);try simp (maxSteps:=9^7) +contextual only [↓ S2,S2,↓reduceIte,reduceNe,reduceEqDiff,reduceCtorEq,reduceLeDiff,reduceAdd,reduceLT,VQ,hil]));(try simp +contextual (disch:=omega) only [Z2,hil]);(with_reducible repeat' (first|intro h|refine And.intro (by omega) ?_ | refine exP (by omega) ?_ | apply And.intro)))
   all_goals try exact oF
   refine ZC mxd (ι:={ k:Nat // k≤O.length }) (fun k=>[(5,IS O),(6,B false),(9,TbS T),(10,I k.1)]) (fun _ => []) (fun k=>O.length-k.1) ⟨0,by omega⟩ (by simp [E2]) rfl ?_
   rintro ⟨k,hk2⟩
   dsimp only
   rcases nL k O.length with hlk|hgk
   ·obtain ⟨i,hi,e1,e2,e3⟩:=hoat k hlk
    ((try refine qI ?_);(repeat ((first|with_reducible refine qU ?_ | simp only [Z6]);try simp (maxSteps:=9^7) +contextual only [↓ S2,S2,↓reduceIte,reduceNe,reduceEqDiff,reduceCtorEq,reduceLeDiff,reduceAdd,reduceLT,VQ,e1]));(try simp +contextual (disch:=omega) only [Z2,e1]);(with_reducible repeat' (first|intro h|refine And.intro (by omega) ?_ | refine exP (by omega) ?_ | apply And.intro)))
    all_goals try exact oF
    refine ZC mxd (ι:={ j:Nat // j≤T[i].length }) (fun j=>[(5,IS O),(6,B false),(9,TbS T),(10,I k),(11,IS T[i]),(12,I j.1)]) (fun _ => []) (fun j=>T[i].length - j.1) ⟨0,by omega⟩ (by simp [E2]) rfl ?_
    rintro ⟨j,hj2⟩
    dsimp only
    rcases nL j T[i].length with hlj|hgj
    ·obtain ⟨h1,h2⟩:=e3 j hlj
     by_cases hn:0≤T[i][j]
     ·have hn':=eq_true hn
      have hh:=w14 (O.take k) T[i][j] (by simp;omega)
      rw [h2 hn,show (IS (O.take k):GV) = .sl 1 (List.drop (Int.toNat 0) (List.take k (List.map I O))) by simp [List.map_take]] at hh
      ((try refine qI ?_);(repeat ((first|with_reducible refine qU ?_ | simp only [Z6]);try simp (maxSteps:=9^7) +contextual only [↓ S2,S2,↓reduceIte,reduceNe,reduceEqDiff,reduceCtorEq,reduceLeDiff,reduceAdd,reduceLT,VQ,hn',decide_true]));(try simp +contextual (disch:=omega) only [Z2,hn',decide_true]);(with_reducible repeat' (first|intro h|refine And.intro (by omega) ?_ | refine exP (by omega) ?_ | apply And.intro)))
      all_goals try exact oF
      refine callS.eq hh ?_
      ((try refine qI ?_);(repeat ((first|with_reducible refine qU ?_ | simp only [Z6]);try simp (maxSteps:=9^7) +contextual only [↓ S2,S2,↓reduceIte,reduceNe,reduceEqDiff,reduceCtorEq,reduceLeDiff,reduceAdd,reduceLT,VQ,]));(try simp +contextual (disch:=omega) only [Z2,]);(with_reducible repeat' (first|intro h|refine And.intro (by omega) ?_ | refine exP (by omega) ?_ | apply And.intro)))
      all_goals try exact oF
      exact nx ⟨j+1,by omega⟩ (by dsimp only;omega) (by simp [E2]) rfl
     ·have hn':=eq_false hn
      ((try refine qI ?_);(repeat ((first|with_reducible refine qU ?_ | simp only [Z6]);try simp (maxSteps:=9^7) +contextual only [↓ S2,S2,↓reduceIte,reduceNe,reduceEqDiff,reduceCtorEq,reduceLeDiff,reduceAdd,reduceLT,VQ,hn',decide_false]));(try simp +contextual (disch:=omega) only [Z2,hn',decide_false]);(with_reducible repeat' (first|intro h|refine And.intro (by omega) ?_ | refine exP (by omega) ?_ | apply And.intro)))
      all_goals try exact oF
      exact nx ⟨j+1,by omega⟩ (by dsimp only;omega) (by simp [E2]) rfl
    ·((try refine qI ?_);(repeat ((first|with_reducible refine qU ?_ | simp only [Z6]);try simp (maxSteps:=9^7) +contextual only [↓ S2,S2,↓reduceIte,reduceNe,reduceEqDiff,reduceCtorEq,reduceLeDiff,reduceAdd,reduceLT,VQ,]));(try simp +contextual (disch:=omega) only [Z2,]);(with_reducible repeat' (first|intro h|refine And.intro (by omega) ?_ | refine exP (by omega) ?_ | apply And.intro)))
     all_goals try exact oF
     exact nx ⟨k+1,by omega⟩ (by dsimp only;omega) (by simp [E2]) rfl
   ·((try refine qI ?_);(repeat ((first|with_reducible refine qU ?_ | simp only [Z6]);try simp (maxSteps:=9^7) +contextual only [↓ S2,S2,↓reduceIte,reduceNe,reduceEqDiff,reduceCtorEq,reduceLeDiff,reduceAdd,reduceLT,VQ,]));(try simp +contextual (disch:=omega) only [Z2,]);(with_reducible repeat' (first|intro h|refine And.intro (by omega) ?_ | refine exP (by omega) ?_ | apply And.intro)))
    all_goals try exact oF
  ·have hc0:(cy.length=0)=True:=by simpa using hoi.symm
   have hoal:=hoa rfl
   ((try refine qI ?_);(repeat ((first|with_reducible refine qU ?_ | simp only [Z6]);try simp (maxSteps:=9^7) +contextual only [↓ S2,S2,↓reduceIte,reduceNe,reduceEqDiff,reduceCtorEq,reduceLeDiff,reduceAdd,reduceLT,VQ,hoi',hc0,decide_true]));(try simp +contextual (disch:=omega) only [Z2,hoi',hc0,decide_true]);(with_reducible repeat' (first|intro h|refine And.intro (by omega) ?_ | refine exP (by omega) ?_ | apply And.intro)))
   all_goals try exact oF
   refine callS.eq q4 ?_
   ((try refine qI ?_);(repeat ((first|with_reducible refine qU ?_ | simp only [Z6]);try simp (maxSteps:=9^7) +contextual only [↓ S2,S2,↓reduceIte,reduceNe,reduceEqDiff,reduceCtorEq,reduceLeDiff,reduceAdd,reduceLT,VQ,]));(try simp +contextual (disch:=omega) only [Z2,]);(with_reducible repeat' (first|intro h|refine And.intro (by omega) ?_ | refine exP (by omega) ?_ | apply And.intro)))
   refine callS.eq q5 ?_
   ((try refine qI ?_);(repeat ((first|with_reducible refine qU ?_ | simp only [Z6]);try simp (maxSteps:=9^7) +contextual only [↓ S2,S2,↓reduceIte,reduceNe,reduceEqDiff,reduceCtorEq,reduceLeDiff,reduceAdd,reduceLT,VQ,hil]));(try simp +contextual (disch:=omega) only [Z2,hil]);(with_reducible repeat' (first|intro h|refine And.intro (by omega) ?_ | refine exP (by omega) ?_ | apply And.intro)))
   all_goals try exact oF
   refine ZC mxd (ι:={ k:Nat // k≤O.length }) (fun k=>[(5,IS O),(6,B true),(9,TbS T),(10,I k.1)]) (fun _ => []) (fun k=>O.length-k.1) ⟨0,by omega⟩ (by simp [E2]) rfl ?_
   rintro ⟨k,hk2⟩
   dsimp only
   rcases nL k O.length with hlk|hgk
   ·obtain ⟨i,hi,e1,e2,e3⟩:=hoat k hlk
    ((try refine qI ?_);(repeat ((first|with_reducible refine qU ?_ | simp only [Z6]);try simp (maxSteps:=9^7) +contextual only [↓ S2,S2,↓reduceIte,reduceNe,reduceEqDiff,reduceCtorEq,reduceLeDiff,reduceAdd,reduceLT,VQ,e1]));(try simp +contextual (disch:=omega) only [Z2,e1]);(with_reducible repeat' (first|intro h|refine And.intro (by omega) ?_ | refine exP (by omega) ?_ | apply And.intro)))
    all_goals try exact oF
    refine ZC mxd (ι:={ j:Nat // j≤T[i].length }) (fun j=>[(5,IS O),(6,B true),(9,TbS T),(10,I k),(11,IS T[i]),(12,I j.1)]) (fun _ => []) (fun j=>T[i].length - j.1) ⟨0,by omega⟩ (by simp [E2]) rfl ?_
    rintro ⟨j,hj2⟩
    dsimp only
    rcases nL j T[i].length with hlj|hgj
    ·obtain ⟨h1,h2⟩:=e3 j hlj
     by_cases hn:0≤T[i][j]
     ·have hn':=eq_true hn
      have hh:=w14 (O.take k) T[i][j] (by simp;omega)
      rw [h2 hn,show (IS (O.take k):GV) = .sl 1 (List.drop (Int.toNat 0) (List.take k (List.map I O))) by simp [List.map_take]] at hh
      ((try refine qI ?_);(repeat ((first|with_reducible refine qU ?_ | simp only [Z6]);try simp (maxSteps:=9^7) +contextual only [↓ S2,S2,↓reduceIte,reduceNe,reduceEqDiff,reduceCtorEq,reduceLeDiff,reduceAdd,reduceLT,VQ,hn',decide_true]));(try simp +contextual (disch:=omega) only [Z2,hn',decide_true]);(with_reducible repeat' (first|intro h|refine And.intro (by omega) ?_ | refine exP (by omega) ?_ | apply And.intro)))
      all_goals try exact oF
      refine callS.eq hh ?_
      ((try refine qI ?_);(repeat ((first|with_reducible refine qU ?_ | simp only [Z6]);try simp (maxSteps:=9^7) +contextual only [↓ S2,S2,↓reduceIte,reduceNe,reduceEqDiff,reduceCtorEq,reduceLeDiff,reduceAdd,reduceLT,VQ,]));(try simp +contextual (disch:=omega) only [Z2,]);(with_reducible repeat' (first|intro h|refine And.intro (by omega) ?_ | refine exP (by omega) ?_ | apply And.intro)))
      all_goals try exact oF
      exact nx ⟨j+1,by omega⟩ (by dsimp only;omega) (by simp [E2]) rfl
     ·have hn':=eq_false hn
      ((try refine qI ?_);(repeat ((first|with_reducible refine qU ?_ | simp only [Z6]);try simp (maxSteps:=9^7) +contextual only [↓ S2,S2,↓reduceIte,reduceNe,reduceEqDiff,reduceCtorEq,reduceLeDiff,reduceAdd,reduceLT,VQ,hn',decide_false]));(try simp +contextual (disch:=omega) only [Z2,hn',decide_false]);(with_reducible repeat' (first|intro h|refine And.intro (by omega) ?_ | refine exP (by omega) ?_ | apply And.intro)))
      all_goals try exact oF
      exact nx ⟨j+1,by omega⟩ (by dsimp only;omega) (by simp [E2]) rfl
    ·((try refine qI ?_);(repeat ((first|with_reducible refine qU ?_ | simp only [Z6]);try simp (maxSteps:=9^7) +contextual only [↓ S2,S2,↓reduceIte,reduceNe,reduceEqDiff,reduceCtorEq,reduceLeDiff,reduceAdd,reduceLT,VQ,]));(try simp +contextual (disch:=omega) only [Z2,]);(with_reducible repeat' (first|intro h|refine And.intro (by omega) ?_ | refine exP (by omega) ?_ | apply And.intro)))
     all_goals try exact oF
     exact nx ⟨k+1,by omega⟩ (by dsimp only;omega) (by simp [E2]) rfl
   ·((try refine qI ?_);(repeat ((first|with_reducible refine qU ?_ | simp only [Z6]);try simp (maxSteps:=9^7) +contextual only [↓ S2,S2,↓reduceIte,reduceNe,reduceEqDiff,reduceCtorEq,reduceLeDiff,reduceAdd,reduceLT,VQ,hoal,decide_true]));(try simp +contextual (disch:=omega) only [Z2,hoal,decide_true]);(with_reducible repeat' (first|intro h|refine And.intro (by omega) ?_ | refine exP (by omega) ?_ | apply And.intro)))
    all_goals try exact oF
end Go.Proofs.YtofcbmnplanmkaaGreat
