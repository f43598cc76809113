/- The laws FnTreeOrder and FnTreeCycle return true whatever the input, and the input reads behind the call as before. No condition. -/
import Derived.Test.YtofcbmnplanmkaaGreatFoc19
set_option maxHeartbeats 40000000
set_option linter.unusedSimpArgs false
set_option linter.unusedVariables false
namespace Go.Proofs.YtofcbmnplanmkaaGreat
open Go.Gh
open Nat (reduceEqDiff reduceLeDiff reduceAdd reduceLT)
open Int (reduceNe)
set_option maxRecDepth 20000
set_option linter.unusedSimpArgs false
set_option linter.unusedVariables false
theorem w15 (bs:List UInt8) (hb:bs.length≤1048576):Pu 15 [Bs bs] (fun v=>∃g t,drG g∧bentT t∧v = .tup [Gr g,Tr t]):=by
 refine ZV mxd i15 rfl (by simp) ?_;simp (maxSteps:=9^7) only [↓ S2,S2,Z5,↓reduceIte,reduceNe,reduceEqDiff,reduceCtorEq,reduceLeDiff,reduceAdd,reduceLT]
 (((try refine qI ?_);(repeat ((first|with_reducible refine qU ?_ | simp only [Z6]);try simp (maxSteps:=9^7) only [↓ S2,S2,Z5,↓reduceIte,reduceNe,reduceEqDiff,reduceCtorEq,reduceLeDiff,reduceAdd,reduceLT,Z9,Z8,Z7]));(try simp +contextual (disch:=omega) only [Z2,Z9,Z8,Z7]);(with_reducible repeat' (first|intro h|refine And.intro (by omega) ?_ | refine exP (by omega) ?_ | apply And.intro)));(repeat' (have h:=Z4 h;simp only [Z0,ZY,Z1,ZZ,and_true,true_and] at h;((try refine qI ?_);(repeat ((first|with_reducible refine qU ?_ | simp only [Z6]);try simp (maxSteps:=9^7) only [↓ S2,S2,Z5,↓reduceIte,reduceNe,reduceEqDiff,reduceCtorEq,reduceLeDiff,reduceAdd,reduceLT,Z9,Z8,Z7,h]));(try simp +contextual (disch:=omega) only [Z2,Z9,Z8,Z7,h]);(with_reducible repeat' (first|intro h|refine And.intro (by omega) ?_ | refine exP (by omega) ?_ | apply And.intro))))))
 refine callS.of ((w34 bs hb).frame _) ?_
 rintro _ _ ⟨⟨g,t,hg,ht,rfl⟩,rfl⟩ _
 (((try refine qI ?_);(repeat ((first|with_reducible refine qU ?_ | simp only [Z6]);try simp (maxSteps:=9^7) only [↓ S2,S2,Z5,↓reduceIte,reduceNe,reduceEqDiff,reduceCtorEq,reduceLeDiff,reduceAdd,reduceLT,Z9,Z8,Z7]));(try simp +contextual (disch:=omega) only [Z2,Z9,Z8,Z7]);(with_reducible repeat' (first|intro h|refine And.intro (by omega) ?_ | refine exP (by omega) ?_ | apply And.intro)));(repeat' (have h:=Z4 h;simp only [Z0,ZY,Z1,ZZ,and_true,true_and] at h;((try refine qI ?_);(repeat ((first|with_reducible refine qU ?_ | simp only [Z6]);try simp (maxSteps:=9^7) only [↓ S2,S2,Z5,↓reduceIte,reduceNe,reduceEqDiff,reduceCtorEq,reduceLeDiff,reduceAdd,reduceLT,Z9,Z8,Z7,h]));(try simp +contextual (disch:=omega) only [Z2,Z9,Z8,Z7,h]);(with_reducible repeat' (first|intro h|refine And.intro (by omega) ?_ | refine exP (by omega) ?_ | apply And.intro))))))
 exact ⟨g,t,hg,ht,rfl⟩
theorem w20 (bs:List UInt8) (hb:bs.length≤1048576):Pu 20 [Bs bs] (fun v=>∃g t i k,drG g∧bentT t∧v = .tup [Gr g,Tr t,I i,I k]):=by
 refine ZV mxd i20 rfl (by simp) ?_;simp (maxSteps:=9^7) only [↓ S2,S2,Z5,↓reduceIte,reduceNe,reduceEqDiff,reduceCtorEq,reduceLeDiff,reduceAdd,reduceLT]
 (((try refine qI ?_);(repeat ((first|with_reducible refine qU ?_ | simp only [Z6]);try simp (maxSteps:=9^7) only [↓ S2,S2,Z5,↓reduceIte,reduceNe,reduceEqDiff,reduceCtorEq,reduceLeDiff,reduceAdd,reduceLT,Z9,Z8,Z7]));(try simp +contextual (disch:=omega) only [Z2,Z9,Z8,Z7]);(with_reducible repeat' (first|intro h|refine And.intro (by omega) ?_ | refine exP (by omega) ?_ | apply And.intro)));(repeat' (have h:=Z4 h;simp only [Z0,ZY,Z1,ZZ,and_true,true_and] at h;((try refine qI ?_);(repeat ((first|with_reducible refine qU ?_ | simp only [Z6]);try simp (maxSteps:=9^7) only [↓ S2,S2,Z5,↓reduceIte,reduceNe,reduceEqDiff,reduceCtorEq,reduceLeDiff,reduceAdd,reduceLT,Z9,Z8,Z7,h]));(try simp +contextual (disch:=omega) only [Z2,Z9,Z8,Z7,h]);(with_reducible repeat' (first|intro h|refine And.intro (by omega) ?_ | refine exP (by omega) ?_ | apply And.intro))))))
 refine callS.of ((w34 bs hb).frame _) ?_
 rintro _ _ ⟨⟨g,t,hg,ht,rfl⟩,rfl⟩ _
 (((try refine qI ?_);(repeat ((first|with_reducible refine qU ?_ | simp only [Z6]);try simp (maxSteps:=9^7) only [↓ S2,S2,Z5,↓reduceIte,reduceNe,reduceEqDiff,reduceCtorEq,reduceLeDiff,reduceAdd,reduceLT,Z9,Z8,Z7]));(try simp +contextual (disch:=omega) only [Z2,Z9,Z8,Z7]);(with_reducible repeat' (first|intro h|refine And.intro (by omega) ?_ | refine exP (by omega) ?_ | apply And.intro)));(repeat' (have h:=Z4 h;simp only [Z0,ZY,Z1,ZZ,and_true,true_and] at h;((try refine qI ?_);(repeat ((first|with_reducible refine qU ?_ | simp only [Z6]);try simp (maxSteps:=9^7) only [↓ S2,S2,Z5,↓reduceIte,reduceNe,reduceEqDiff,reduceCtorEq,reduceLeDiff,reduceAdd,reduceLT,Z9,Z8,Z7,h]));(try simp +contextual (disch:=omega) only [Z2,Z9,Z8,Z7,h]);(with_reducible repeat' (first|intro h|refine And.intro (by omega) ?_ | refine exP (by omega) ?_ | apply And.intro))))))
 refine callS.of (o49 bs hb _) ?_
 rintro _ _ ⟨rc,rfl,rfl⟩ hn
 (((try refine qI ?_);(repeat ((first|with_reducible refine qU ?_ | simp only [Z6]);try simp (maxSteps:=9^7) only [↓ S2,S2,Z5,↓reduceIte,reduceNe,reduceEqDiff,reduceCtorEq,reduceLeDiff,reduceAdd,reduceLT,Z9,Z8,Z7]));(try simp +contextual (disch:=omega) only [Z2,Z9,Z8,Z7]);(with_reducible repeat' (first|intro h|refine And.intro (by omega) ?_ | refine exP (by omega) ?_ | apply And.intro)));(repeat' (have h:=Z4 h;simp only [Z0,ZY,Z1,ZZ,and_true,true_and] at h;((try refine qI ?_);(repeat ((first|with_reducible refine qU ?_ | simp only [Z6]);try simp (maxSteps:=9^7) only [↓ S2,S2,Z5,↓reduceIte,reduceNe,reduceEqDiff,reduceCtorEq,reduceLeDiff,reduceAdd,reduceLT,Z9,Z8,Z7,h]));(try simp +contextual (disch:=omega) only [Z2,Z9,Z8,Z7,h]);(with_reducible repeat' (first|intro h|refine And.intro (by omega) ?_ | refine exP (by omega) ?_ | apply And.intro))))))
 refine callA.dv (wz50 12 (by omega)) ZX ?_
 rintro _ ⟨a,ha,rfl⟩
 (((try refine qI ?_);(repeat ((first|with_reducible refine qU ?_ | simp only [Z6]);try simp (maxSteps:=9^7) only [↓ S2,S2,Z5,↓reduceIte,reduceNe,reduceEqDiff,reduceCtorEq,reduceLeDiff,reduceAdd,reduceLT,Z9,Z8,Z7]));(try simp +contextual (disch:=omega) only [Z2,Z9,Z8,Z7]);(with_reducible repeat' (first|intro h|refine And.intro (by omega) ?_ | refine exP (by omega) ?_ | apply And.intro)));(repeat' (have h:=Z4 h;simp only [Z0,ZY,Z1,ZZ,and_true,true_and] at h;((try refine qI ?_);(repeat ((first|with_reducible refine qU ?_ | simp only [Z6]);try simp (maxSteps:=9^7) only [↓ S2,S2,Z5,↓reduceIte,reduceNe,reduceEqDiff,reduceCtorEq,reduceLeDiff,reduceAdd,reduceLT,Z9,Z8,Z7,h]));(try simp +contextual (disch:=omega) only [Z2,Z9,Z8,Z7,h]);(with_reducible repeat' (first|intro h|refine And.intro (by omega) ?_ | refine exP (by omega) ?_ | apply And.intro))))))
 refine callA.dv (wz50 12 (by omega)) ZX ?_
 rintro _ ⟨b,hb2,rfl⟩
 (((try refine qI ?_);(repeat ((first|with_reducible refine qU ?_ | simp only [Z6]);try simp (maxSteps:=9^7) only [↓ S2,S2,Z5,↓reduceIte,reduceNe,reduceEqDiff,reduceCtorEq,reduceLeDiff,reduceAdd,reduceLT,Z9,Z8,Z7]));(try simp +contextual (disch:=omega) only [Z2,Z9,Z8,Z7]);(with_reducible repeat' (first|intro h|refine And.intro (by omega) ?_ | refine exP (by omega) ?_ | apply And.intro)));(repeat' (have h:=Z4 h;simp only [Z0,ZY,Z1,ZZ,and_true,true_and] at h;((try refine qI ?_);(repeat ((first|with_reducible refine qU ?_ | simp only [Z6]);try simp (maxSteps:=9^7) only [↓ S2,S2,Z5,↓reduceIte,reduceNe,reduceEqDiff,reduceCtorEq,reduceLeDiff,reduceAdd,reduceLT,Z9,Z8,Z7,h]));(try simp +contextual (disch:=omega) only [Z2,Z9,Z8,Z7,h]);(with_reducible repeat' (first|intro h|refine And.intro (by omega) ?_ | refine exP (by omega) ?_ | apply And.intro))))))
 exact ⟨g,t,_,_,hg,ht,rfl⟩
theorem w4 (bs:List UInt8):Pu 4 [Bs bs] (· = B true):=by
 refine ZV mxd i4 rfl (by simp) ?_;simp (maxSteps:=9^7) only [↓ S2,S2,Z5,↓reduceIte,reduceNe,reduceEqDiff,reduceCtorEq,reduceLeDiff,reduceAdd,reduceLT]
 ((try refine qI ?_);(repeat ((first|with_reducible refine qU ?_ | simp only [Z6]);try simp (maxSteps:=9^7) +contextual only [↓ S2,S2,↓reduceIte,reduceNe,reduceEqDiff,reduceCtorEq,reduceLeDiff,reduceAdd,reduceLT,VQ,]));(try simp +contextual (disch:=omega) only [Z2,]);(with_reducible repeat' (first|intro h|refine And.intro (by omega) ?_ | refine exP (by omega) ?_ | apply And.intro)))
 refine callS.eq (w6 bs) ?_
 by_cases hb:(1048576:Int)<bs.length
 ·have hb':=eq_true hb
  ((try refine qI ?_);(repeat ((first|with_reducible refine qU ?_ | simp only [Z6]);try simp (maxSteps:=9^7) +contextual only [↓ S2,S2,↓reduceIte,reduceNe,reduceEqDiff,reduceCtorEq,reduceLeDiff,reduceAdd,reduceLT,VQ,hb',decide_true]));(try simp +contextual (disch:=omega) only [Z2,hb',decide_true]);(with_reducible repeat' (first|intro h|refine And.intro (by omega) ?_ | refine exP (by omega) ?_ | apply And.intro)))
 ·have hb':=eq_false hb
  ((try refine qI ?_);(repeat ((first|with_reducible refine qU ?_ | simp only [Z6]);try simp (maxSteps:=9^7) +contextual only [↓ S2,S2,↓reduceIte,reduceNe,reduceEqDiff,reduceCtorEq,reduceLeDiff,reduceAdd,reduceLT,VQ,hb',decide_false]));(try simp +contextual (disch:=omega) only [Z2,hb',decide_false]);(with_reducible repeat' (first|intro h|refine And.intro (by omega) ?_ | refine exP (by omega) ?_ | apply And.intro)))
  refine callS.of ((w15 bs (by omega)).frame _) ?_
  rintro _ _ ⟨⟨g,t,hg,ht,rfl⟩,rfl⟩ _
  have hsm:=drG_sm hg
  obtain ⟨hl,hk,_⟩:=bentT_sm ht
  have hT:=tabI_ok hsm t
  have q3:=q11 g t hsm hl hk
  have q4:=q16 g t hsm hl hk
  have q5:=q17 g t hsm hl hk
  have qd:=fun i k=>w19 g t i k hsm hl hk
  have hTl:=hT.1
  have hsome:=some_law hT
  have hcat:=fun k h=>cycle_at hT (k:=k) h
  have hcl:(cyL (ZD g t) (ZD g t).length).length ≤ 1000000000:=Nat.le_trans (cyL_le _ (Nat.le_refl _)) (by omega)
  have hs0:someB (ZD g t) 0=false:=rfl
  have hss:∀j,someB (ZD g t) (j+1)=(someB (ZD g t) j||depB (ZD g t) j j):=fun _ => rfl
  generalize someB (ZD g t)=sb at *
  generalize ZD g t=T at *
  generalize cyL T T.length=cy at *
  ((try refine qI ?_);(repeat ((first|with_reducible refine qU ?_ | simp only [Z6]);try simp (maxSteps:=9^7) +contextual only [↓ S2,S2,↓reduceIte,reduceNe,reduceEqDiff,reduceCtorEq,reduceLeDiff,reduceAdd,reduceLT,VQ,]));(try simp +contextual (disch:=omega) only [Z2,]);(with_reducible repeat' (first|intro h|refine And.intro (by omega) ?_ | refine exP (by omega) ?_ | apply And.intro)))
  refine callS.eq q3 ?_
  ((try refine qI ?_);(repeat ((first|with_reducible refine qU ?_ | simp only [Z6]);try simp (maxSteps:=9^7) +contextual only [↓ S2,S2,↓reduceIte,reduceNe,reduceEqDiff,reduceCtorEq,reduceLeDiff,reduceAdd,reduceLT,VQ,]));(try simp +contextual (disch:=omega) only [Z2,]);(with_reducible repeat' (first|intro h|refine And.intro (by omega) ?_ | refine exP (by omega) ?_ | apply And.intro)))
  refine callS.eq q4 ?_
  ((try refine qI ?_);(repeat ((first|with_reducible refine qU ?_ | simp only [Z6]);try simp (maxSteps:=9^7) +contextual only [↓ S2,S2,↓reduceIte,reduceNe,reduceEqDiff,reduceCtorEq,reduceLeDiff,reduceAdd,reduceLT,VQ,]));(try simp +contextual (disch:=omega) only [Z2,]);(with_reducible repeat' (first|intro h|refine And.intro (by omega) ?_ | refine exP (by omega) ?_ | apply And.intro)))
  refine callS.eq (w10 cy cy (by omega)) ?_
  rw [show decide (cy=cy)=true by simp]
  ((try refine qI ?_);(repeat ((first|with_reducible refine qU ?_ | simp only [Z6]);try simp (maxSteps:=9^7) +contextual only [↓ S2,S2,↓reduceIte,reduceNe,reduceEqDiff,reduceCtorEq,reduceLeDiff,reduceAdd,reduceLT,VQ,]));(try simp +contextual (disch:=omega) only [Z2,]);(with_reducible repeat' (first|intro h|refine And.intro (by omega) ?_ | refine exP (by omega) ?_ | apply And.intro)))
  refine callS.eq q5 ?_
  ((try refine qI ?_);(repeat ((first|with_reducible refine qU ?_ | simp only [Z6]);try simp (maxSteps:=9^7) +contextual only [↓ S2,S2,↓reduceIte,reduceNe,reduceEqDiff,reduceCtorEq,reduceLeDiff,reduceAdd,reduceLT,VQ,]));(try simp +contextual (disch:=omega) only [Z2,]);(with_reducible repeat' (first|intro h|refine And.intro (by omega) ?_ | refine exP (by omega) ?_ | apply And.intro)))
  refine ZC mxd (ι:={ k:Nat // k≤cy.length }) (fun k=>[(0,Bs bs),(3,.rop 2 (Gr g)),(4,.rop 1 (Tr t)),(5,IS cy),(6,TbS T),(7,I k.1)]) (fun _ => []) (fun k=>cy.length-k.1) ⟨0,by omega⟩ (by simp [E2]) rfl ?_
  rintro ⟨k,hk2⟩
  dsimp only
  rcases nL k cy.length with hlk|hgk
  ·obtain ⟨i,hi,e1,e2,e3,e4,e5⟩:=hcat k hlk
   have hm:(k+1) % cy.length<cy.length:=Nat.mod_lt _ (by omega)
   have hm2:((k:Int)+1).tmod cy.length=((k+1) % cy.length:Nat):=by
    rw [Int.tmod_eq_emod_of_nonneg (by omega)];simp
   have ht1:=w18 cy i (by omega)
   rw [e3] at ht1
   have hh:=w14 T[i] (cy.getD ((k+1) % cy.length) 0) (by omega)
   rw [e4,ZQ hm] at hh
   have hd:=qd i (cy.getD 0 0)
   rw [e5,ZQ (by omega)] at hd
   generalize (k+1) % cy.length=m at *
   ((try refine qI ?_);(repeat ((first|with_reducible refine qU ?_ | simp only [Z6]);try simp (maxSteps:=9^7) +contextual only [↓ S2,S2,↓reduceIte,reduceNe,reduceEqDiff,reduceCtorEq,reduceLeDiff,reduceAdd,reduceLT,VQ,e1]));(try simp +contextual (disch:=omega) only [Z2,e1]);(with_reducible repeat' (first|intro h|refine And.intro (by omega) ?_ | refine exP (by omega) ?_ | apply And.intro)))
   all_goals try exact oF
   refine callS.eq ht1 ?_
   ((try refine qI ?_);(repeat ((first|with_reducible refine qU ?_ | simp only [Z6]);try simp (maxSteps:=9^7) +contextual only [↓ S2,S2,↓reduceIte,reduceNe,reduceEqDiff,reduceCtorEq,reduceLeDiff,reduceAdd,reduceLT,VQ,e1,hm2]));(try simp +contextual (disch:=omega) only [Z2,e1,hm2]);(with_reducible repeat' (first|intro h|refine And.intro (by omega) ?_ | refine exP (by omega) ?_ | apply And.intro)))
   all_goals try exact oF
   refine callS.eq hh ?_
   ((try refine qI ?_);(repeat ((first|with_reducible refine qU ?_ | simp only [Z6]);try simp (maxSteps:=9^7) +contextual only [↓ S2,S2,↓reduceIte,reduceNe,reduceEqDiff,reduceCtorEq,reduceLeDiff,reduceAdd,reduceLT,VQ,e1,hm2]));(try simp +contextual (disch:=omega) only [Z2,e1,hm2]);(with_reducible repeat' (first|intro h|refine And.intro (by omega) ?_ | refine exP (by omega) ?_ | apply And.intro)))
   all_goals try exact oF
   refine callS.eq hd ?_
   ((try refine qI ?_);(repeat ((first|with_reducible refine qU ?_ | simp only [Z6]);try simp (maxSteps:=9^7) +contextual only [↓ S2,S2,↓reduceIte,reduceNe,reduceEqDiff,reduceCtorEq,reduceLeDiff,reduceAdd,reduceLT,VQ,]));(try simp +contextual (disch:=omega) only [Z2,]);(with_reducible repeat' (first|intro h|refine And.intro (by omega) ?_ | refine exP (by omega) ?_ | apply And.intro)))
   all_goals try exact oF
   exact nx ⟨k+1,by omega⟩ (by dsimp only;omega) (by simp [E2]) rfl
  ·((try refine qI ?_);(repeat ((first|with_reducible refine qU ?_ | simp only [Z6]);try simp (maxSteps:=9^7) +contextual only [↓ S2,S2,↓reduceIte,reduceNe,reduceEqDiff,reduceCtorEq,reduceLeDiff,reduceAdd,reduceLT,VQ,]));(try simp +contextual (disch:=omega) only [Z2,]);(with_reducible repeat' (first|intro h|refine And.intro (by omega) ?_ | refine exP (by omega) ?_ | apply And.intro)))
   all_goals try exact oF
   refine callS.of ((w20 bs (by omega)).frame _) ?_
   rintro _ _ ⟨⟨h,u,i2,k2,hg2,ht2,rfl⟩,rfl⟩ _
   have hsm2:=drG_sm hg2
   obtain ⟨hl2,hk2,_⟩:=bentT_sm ht2
   have qi:=w19 h u i2 k2 hsm2 hl2 hk2
   have qs:=w21 h u i2 k2 hsm2 hl2 hk2
   generalize depB (ZD h u) i2 k2=db at *
   ((try refine qI ?_);(repeat ((first|with_reducible refine qU ?_ | simp only [Z6]);try simp (maxSteps:=9^7) +contextual only [↓ S2,S2,↓reduceIte,reduceNe,reduceEqDiff,reduceCtorEq,reduceLeDiff,reduceAdd,reduceLT,VQ,]));(try simp +contextual (disch:=omega) only [Z2,]);(with_reducible repeat' (first|intro h|refine And.intro (by omega) ?_ | refine exP (by omega) ?_ | apply And.intro)))
   refine ZC mxd (ι:={ j:Nat // j≤T.length }) (fun j=>[(3,.rop 2 (Gr g)),(4,.rop 1 (Tr t)),(5,IS cy),(6,TbS T),(8,.rop 2 (Gr h)),(9,.rop 1 (Tr u)),(10,I i2),(11,I k2),(12,B (sb j.1)),(13,I j.1)]) (fun _ => []) (fun j=>T.length-j.1) ⟨0,by omega⟩ (by simp [E2,hs0]) rfl ?_
   rintro ⟨j,hj2⟩
   dsimp only
   rcases nL j T.length with hlj|hgj
   ·have hs:=hss j
    cases hb1:sb j
    ·((try refine qI ?_);(repeat ((first|with_reducible refine qU ?_ | simp only [Z6]);try simp (maxSteps:=9^7) +contextual only [↓ S2,S2,↓reduceIte,reduceNe,reduceEqDiff,reduceCtorEq,reduceLeDiff,reduceAdd,reduceLT,VQ,]));(try simp +contextual (disch:=omega) only [Z2,]);(with_reducible repeat' (first|intro h|refine And.intro (by omega) ?_ | refine exP (by omega) ?_ | apply And.intro)))
     all_goals try exact oF
     refine callS.eq (qd j j) ?_
     rw [hb1,Bool.false_or] at hs
     ((try refine qI ?_);(repeat ((first|with_reducible refine qU ?_ | simp only [Z6]);try simp (maxSteps:=9^7) +contextual only [↓ S2,S2,↓reduceIte,reduceNe,reduceEqDiff,reduceCtorEq,reduceLeDiff,reduceAdd,reduceLT,VQ,]));(try simp +contextual (disch:=omega) only [Z2,]);(with_reducible repeat' (first|intro h|refine And.intro (by omega) ?_ | refine exP (by omega) ?_ | apply And.intro)))
     all_goals try exact oF
     exact nx ⟨j+1,by omega⟩ (by dsimp only;omega) (by simp [E2,hs]) rfl
    ·rw [hb1,Bool.true_or] at hs
     have hlj':=eq_true (show (j:Int)<T.length by omega)
     ((try refine qI ?_);(repeat ((first|with_reducible refine qU ?_ | simp only [Z6]);try simp (maxSteps:=9^7) +contextual only [↓ S2,S2,↓reduceIte,reduceNe,reduceEqDiff,reduceCtorEq,reduceLeDiff,reduceAdd,reduceLT,VQ,hlj',decide_true]));(try simp +contextual (disch:=omega) only [Z2,hlj',decide_true]);(with_reducible repeat' (first|intro h|refine And.intro (by omega) ?_ | refine exP (by omega) ?_ | apply And.intro)))
     all_goals try exact oF
     exact nx ⟨j+1,by omega⟩ (by dsimp only;omega) (by simp [E2,hs]) rfl
   ·obtain rfl:j=T.length:=by omega
    rw [hsome]
    ((try refine qI ?_);(repeat ((first|with_reducible refine qU ?_ | simp only [Z6]);try simp (maxSteps:=9^7) +contextual only [↓ S2,S2,↓reduceIte,reduceNe,reduceEqDiff,reduceCtorEq,reduceLeDiff,reduceAdd,reduceLT,VQ,]));(try simp +contextual (disch:=omega) only [Z2,]);(with_reducible repeat' (first|intro h|refine And.intro (by omega) ?_ | refine exP (by omega) ?_ | apply And.intro)))
    all_goals try exact oF
    refine callS.eq qi ?_
    ((try refine qI ?_);(repeat ((first|with_reducible refine qU ?_ | simp only [Z6]);try simp (maxSteps:=9^7) +contextual only [↓ S2,S2,↓reduceIte,reduceNe,reduceEqDiff,reduceCtorEq,reduceLeDiff,reduceAdd,reduceLT,VQ,]));(try simp +contextual (disch:=omega) only [Z2,]);(with_reducible repeat' (first|intro h|refine And.intro (by omega) ?_ | refine exP (by omega) ?_ | apply And.intro)))
    refine callS.eq qs ?_
    ((try refine qI ?_);(repeat ((first|with_reducible refine qU ?_ | simp only [Z6]);try simp (maxSteps:=9^7) +contextual only [↓ S2,S2,↓reduceIte,reduceNe,reduceEqDiff,reduceCtorEq,reduceLeDiff,reduceAdd,reduceLT,VQ,]));(try simp +contextual (disch:=omega) only [Z2,]);(with_reducible repeat' (first|intro h|refine And.intro (by omega) ?_ | refine exP (by omega) ?_ | apply And.intro)))
end Go.Proofs.YtofcbmnplanmkaaGreat
