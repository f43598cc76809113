/- The law FnInstances returns true whatever the input, and the input reads behind the call as before. No condition. -/
import Derived.Test.YtofcbmnplanmkaaDoorFin2
import Derived.Test.YtofcbmnplanmkaaDoorFin3
import Derived.Test.YtofcbmnplanmkaaDoorFin4
import Derived.Test.YtofcbmnplanmkaaDoorFin12
set_option maxHeartbeats 40000000
set_option linter.unusedSimpArgs false
set_option linter.unusedVariables false
namespace Go.Proofs.YtofcbmnplanmkaaDoor
open Go.Gh
open Nat (reduceEqDiff reduceLeDiff reduceAdd reduceLT)
open Int (reduceNe)
set_option maxRecDepth 20000
set_option linter.unusedSimpArgs false
set_option linter.unusedVariables false
theorem w7 (a b:List (Int×ByteArray)) (ha:a.length≤1000000000):Pu 7 [InsS a,InsS b] (· = B (decide (a=b))):=by
 refine ZR mxd i7 rfl (by simp) ?_;simp (maxSteps:=9^7) only [↓ S2,S2,Z5,↓reduceIte,reduceNe,reduceEqDiff,reduceCtorEq,reduceLeDiff,reduceAdd,reduceLT]
 by_cases hl:a.length=b.length
 ·((try refine qI ?_);(repeat ((first|with_reducible refine qU ?_ | simp only [Z6]);try simp (maxSteps:=9^7) +contextual only [↓ S2,S2,↓reduceIte,reduceNe,reduceEqDiff,reduceCtorEq,reduceLeDiff,reduceAdd,reduceLT,VQ,List.length_map,hl]));(try simp +contextual (disch:=omega) only [Z2,List.length_map,hl]);(with_reducible repeat' (first|intro h|refine And.intro (by omega) ?_ | refine exP (by omega) ?_ | apply And.intro)))
  all_goals try exact oF
  refine Zl mxd (ι:={ i:Nat // i≤a.length∧a.take i=b.take i }) (fun i=>[(0,InsS a),(1,InsS b),(5,I i.1)]) (fun _ => []) (fun i=>a.length-i.1) ⟨0,by simp⟩ (by simp [E2]) rfl ?_
  rintro ⟨i,hi,hp⟩
  dsimp only
  rcases nL i a.length with hlt|hge
  ·have hlb:i<b.length:=by omega
   have hn:a[i]=b[i]∨¬a[i].1 = b[i].1 ∨ (a[i].1 = b[i].1 ∧ ¬a[i].2 = b[i].2):=by
    by_cases h1:a[i].1 = b[i].1
    ·by_cases h2:a[i].2 = b[i].2
     ·exact .inl (Prod.ext h1 h2)
     ·exact .inr (.inr ⟨h1,h2⟩)
    ·exact .inr (.inl h1)
   rcases hn with he|he|⟨he1,he⟩
   ·((try refine qI ?_);(repeat ((first|with_reducible refine qU ?_ | simp only [Z6]);try simp (maxSteps:=9^7) +contextual only [↓ S2,S2,↓reduceIte,reduceNe,reduceEqDiff,reduceCtorEq,reduceLeDiff,reduceAdd,reduceLT,VQ,List.length_map,he,decide_true,and_self,Bool.and_self]));(try simp +contextual (disch:=omega) only [Z2,List.length_map,he,decide_true,and_self,Bool.and_self]);(with_reducible repeat' (first|intro h|refine And.intro (by omega) ?_ | refine exP (by omega) ?_ | apply And.intro)))
    all_goals try exact oF
    all_goals exact nx ⟨i+1,by omega,by rw [List.take_add_one,List.take_add_one,hp,List.getElem?_eq_getElem hlt,List.getElem?_eq_getElem hlb,he]⟩ (by dsimp only;omega) (by simp [E2]) rfl
   ·have he':=eq_false he
    have hab:(a=b)=False:=eq_false fun e=>he (by subst e;rfl)
    ((try refine qI ?_);(repeat ((first|with_reducible refine qU ?_ | simp only [Z6]);try simp (maxSteps:=9^7) +contextual only [↓ S2,S2,↓reduceIte,reduceNe,reduceEqDiff,reduceCtorEq,reduceLeDiff,reduceAdd,reduceLT,VQ,List.length_map,he',hab,decide_false,false_and,Bool.false_and]));(try simp +contextual (disch:=omega) only [Z2,List.length_map,he',hab,decide_false,false_and,Bool.false_and]);(with_reducible repeat' (first|intro h|refine And.intro (by omega) ?_ | refine exP (by omega) ?_ | apply And.intro)))
    all_goals try exact oF
   ·have he':=eq_false he
    have hab:(a=b)=False:=eq_false fun e=>he (by subst e;rfl)
    ((try refine qI ?_);(repeat ((first|with_reducible refine qU ?_ | simp only [Z6]);try simp (maxSteps:=9^7) +contextual only [↓ S2,S2,↓reduceIte,reduceNe,reduceEqDiff,reduceCtorEq,reduceLeDiff,reduceAdd,reduceLT,VQ,List.length_map,he1,he',hab,decide_false,and_false,Bool.and_false]));(try simp +contextual (disch:=omega) only [Z2,List.length_map,he1,he',hab,decide_false,and_false,Bool.and_false]);(with_reducible repeat' (first|intro h|refine And.intro (by omega) ?_ | refine exP (by omega) ?_ | apply And.intro)))
    all_goals try exact oF
  ·have hab:(a=b)=True:=eq_true (by rwa [tL (by omega),tL (by omega)] at hp)
   ((try refine qI ?_);(repeat ((first|with_reducible refine qU ?_ | simp only [Z6]);try simp (maxSteps:=9^7) +contextual only [↓ S2,S2,↓reduceIte,reduceNe,reduceEqDiff,reduceCtorEq,reduceLeDiff,reduceAdd,reduceLT,VQ,List.length_map,hab,decide_true]));(try simp +contextual (disch:=omega) only [Z2,List.length_map,hab,decide_true]);(with_reducible repeat' (first|intro h|refine And.intro (by omega) ?_ | refine exP (by omega) ?_ | apply And.intro)))
   all_goals try exact oF
 ·have hl':((a.length:Int)=b.length)=False:=eq_false (by omega)
  have hab:(a=b)=False:=eq_false fun e=>hl (by subst e;rfl)
  ((try refine qI ?_);(repeat ((first|with_reducible refine qU ?_ | simp only [Z6]);try simp (maxSteps:=9^7) +contextual only [↓ S2,S2,↓reduceIte,reduceNe,reduceEqDiff,reduceCtorEq,reduceLeDiff,reduceAdd,reduceLT,VQ,List.length_map,hl',hab,decide_false]));(try simp +contextual (disch:=omega) only [Z2,List.length_map,hl',hab,decide_false]);(with_reducible repeat' (first|intro h|refine And.intro (by omega) ?_ | refine exP (by omega) ?_ | apply And.intro)))
  all_goals try exact oF
end Go.Proofs.YtofcbmnplanmkaaDoor
namespace Go.Proofs.YtofcbmnplanmkaaDoor
open Go.Gh
open Nat (reduceEqDiff reduceLeDiff reduceAdd reduceLT)
open Int (reduceNe)
set_option maxRecDepth 20000
set_option linter.unusedSimpArgs false
set_option linter.unusedVariables false
open Go.Lib
theorem w5 (bs:List UInt8) (hb:bs.length≤1048576):Pu 5 [Bs bs] (fun v=>∃g t,drG g∧bentT t∧v = .tup [Gr g,Tr t]):=by
 refine ZR mxd i5 rfl (by simp) ?_;simp (maxSteps:=9^7) only [↓ S2,S2,Z5,↓reduceIte,reduceNe,reduceEqDiff,reduceCtorEq,reduceLeDiff,reduceAdd,reduceLT]
 (((try refine qI ?_);(repeat ((first|with_reducible refine qU ?_ | simp only [Z6]);try simp (maxSteps:=9^7) only [↓ S2,S2,Z5,↓reduceIte,reduceNe,reduceEqDiff,reduceCtorEq,reduceLeDiff,reduceAdd,reduceLT,Z9,Z8,Z7]));(try simp +contextual (disch:=omega) only [Z2,Z9,Z8,Z7]);(with_reducible repeat' (first|intro h|refine And.intro (by omega) ?_ | refine exP (by omega) ?_ | apply And.intro)));(repeat' (have h:=Z0 h;simp only [Z1,ZY,Z3,ZZ,and_true,true_and] at h;((try refine qI ?_);(repeat ((first|with_reducible refine qU ?_ | simp only [Z6]);try simp (maxSteps:=9^7) only [↓ S2,S2,Z5,↓reduceIte,reduceNe,reduceEqDiff,reduceCtorEq,reduceLeDiff,reduceAdd,reduceLT,Z9,Z8,Z7,h]));(try simp +contextual (disch:=omega) only [Z2,Z9,Z8,Z7,h]);(with_reducible repeat' (first|intro h|refine And.intro (by omega) ?_ | refine exP (by omega) ?_ | apply And.intro))))))
 refine callS.of ((w15 bs hb).frame _) ?_
 rintro _ _ ⟨⟨g,t,hg,ht,rfl⟩,rfl⟩ _
 (((try refine qI ?_);(repeat ((first|with_reducible refine qU ?_ | simp only [Z6]);try simp (maxSteps:=9^7) only [↓ S2,S2,Z5,↓reduceIte,reduceNe,reduceEqDiff,reduceCtorEq,reduceLeDiff,reduceAdd,reduceLT,Z9,Z8,Z7]));(try simp +contextual (disch:=omega) only [Z2,Z9,Z8,Z7]);(with_reducible repeat' (first|intro h|refine And.intro (by omega) ?_ | refine exP (by omega) ?_ | apply And.intro)));(repeat' (have h:=Z0 h;simp only [Z1,ZY,Z3,ZZ,and_true,true_and] at h;((try refine qI ?_);(repeat ((first|with_reducible refine qU ?_ | simp only [Z6]);try simp (maxSteps:=9^7) only [↓ S2,S2,Z5,↓reduceIte,reduceNe,reduceEqDiff,reduceCtorEq,reduceLeDiff,reduceAdd,reduceLT,Z9,Z8,Z7,h]));(try simp +contextual (disch:=omega) only [Z2,Z9,Z8,Z7,h]);(with_reducible repeat' (first|intro h|refine And.intro (by omega) ?_ | refine exP (by omega) ?_ | apply And.intro))))))
 exact ⟨g,t,hg,ht,rfl⟩
theorem p3 (bs:List UInt8):PureT Tryd.prog (tab10 0) 3 [Bs bs] (· = B true):=by
 refine ZR mxd i3 rfl (by simp) ?_;simp (maxSteps:=9^7) only [↓ S2,S2,Z5,↓reduceIte,reduceNe,reduceEqDiff,reduceCtorEq,reduceLeDiff,reduceAdd,reduceLT]
 ((try refine qI ?_);(repeat ((first|with_reducible refine qU ?_ | simp only [Z6]);try simp (maxSteps:=9^7) +contextual only [↓ S2,S2,↓reduceIte,reduceNe,reduceEqDiff,reduceCtorEq,reduceLeDiff,reduceAdd,reduceLT,VQ,]));(try simp +contextual (disch:=omega) only [Z2,]);(with_reducible repeat' (first|intro h|refine And.intro (by omega) ?_ | refine exP (by omega) ?_ | apply And.intro)))
 refine callS.eq (w4 bs) ?_
 by_cases hb:(1048576:Int)<bs.length
 ·have hb':=eq_true hb
  ((try refine qI ?_);(repeat ((first|with_reducible refine qU ?_ | simp only [Z6]);try simp (maxSteps:=9^7) +contextual only [↓ S2,S2,↓reduceIte,reduceNe,reduceEqDiff,reduceCtorEq,reduceLeDiff,reduceAdd,reduceLT,VQ,hb',decide_true]));(try simp +contextual (disch:=omega) only [Z2,hb',decide_true]);(with_reducible repeat' (first|intro h|refine And.intro (by omega) ?_ | refine exP (by omega) ?_ | apply And.intro)))
 ·have hb':=eq_false hb
  ((try refine qI ?_);(repeat ((first|with_reducible refine qU ?_ | simp only [Z6]);try simp (maxSteps:=9^7) +contextual only [↓ S2,S2,↓reduceIte,reduceNe,reduceEqDiff,reduceCtorEq,reduceLeDiff,reduceAdd,reduceLT,VQ,hb',decide_false]));(try simp +contextual (disch:=omega) only [Z2,hb',decide_false]);(with_reducible repeat' (first|intro h|refine And.intro (by omega) ?_ | refine exP (by omega) ?_ | apply And.intro)))
  refine callS.of ((w5 bs (by omega)).frame _) ?_
  rintro _ _ ⟨⟨g,t,hg,ht,rfl⟩,rfl⟩ _
  have hsm:=drG_sm hg
  obtain ⟨hl,hk,_⟩:=bentT_sm ht
  have htl:t.length≤41:=ht.2.2
  have q1:=q6 g t hsm hl hk
  have q2:=q8 g t hsm hl hk
  have hlen:(Zm g t).length ≤ 1000000000:=by
   rw [Zm];split
   ·rw [insA_sum];have:=sumA_le (t:=t) hg t.length;omega
   ·simp
  have q3:=w7 (Zm g t) (Zm g t) hlen
  rw [show decide (Zm g t=Zm g t)=true by simp] at q3
  obtain ⟨hsum,hall⟩:=ins_law (t:=t) (drG_nd hg)
  have hat:=fun i h=>ins_at (t:=t) hg (i:=i) h
  have hfa:=fun x=>w11 g t x hsm
  have hsy:=fun i=>w10 g t i hsm
  have hfs:=fun s=>w9 g s hsm
  have hsl:=sumA_le (t:=t) hg
  have hs1:∀n,sumA g t (n+1)=sumA g t n+(Zt g.syms (Y5 g t n)).atts.length := fun _ => rfl
  have hs0:sumA g t 0=0:=rfl
  have hfl:∀s,(Zt g.syms s).atts.length ≤ 1048576:=fun s=>smSy_f hsm _
  generalize Zm g t=L at *
  ((try refine qI ?_);(repeat ((first|with_reducible refine qU ?_ | simp only [Z6]);try simp (maxSteps:=9^7) +contextual only [↓ S2,S2,↓reduceIte,reduceNe,reduceEqDiff,reduceCtorEq,reduceLeDiff,reduceAdd,reduceLT,VQ,]));(try simp +contextual (disch:=omega) only [Z2,]);(with_reducible repeat' (first|intro h|refine And.intro (by omega) ?_ | refine exP (by omega) ?_ | apply And.intro)))
  refine callS.eq q1 ?_
  ((try refine qI ?_);(repeat ((first|with_reducible refine qU ?_ | simp only [Z6]);try simp (maxSteps:=9^7) +contextual only [↓ S2,S2,↓reduceIte,reduceNe,reduceEqDiff,reduceCtorEq,reduceLeDiff,reduceAdd,reduceLT,VQ,]));(try simp +contextual (disch:=omega) only [Z2,]);(with_reducible repeat' (first|intro h|refine And.intro (by omega) ?_ | refine exP (by omega) ?_ | apply And.intro)))
  refine callS.eq q2 ?_
  ((try refine qI ?_);(repeat ((first|with_reducible refine qU ?_ | simp only [Z6]);try simp (maxSteps:=9^7) +contextual only [↓ S2,S2,↓reduceIte,reduceNe,reduceEqDiff,reduceCtorEq,reduceLeDiff,reduceAdd,reduceLT,VQ,]));(try simp +contextual (disch:=omega) only [Z2,]);(with_reducible repeat' (first|intro h|refine And.intro (by omega) ?_ | refine exP (by omega) ?_ | apply And.intro)))
  refine callS.eq q3 ?_
  ((try refine qI ?_);(repeat ((first|with_reducible refine qU ?_ | simp only [Z6]);try simp (maxSteps:=9^7) +contextual only [↓ S2,S2,↓reduceIte,reduceNe,reduceEqDiff,reduceCtorEq,reduceLeDiff,reduceAdd,reduceLT,VQ,]));(try simp +contextual (disch:=omega) only [Z2,]);(with_reducible repeat' (first|intro h|refine And.intro (by omega) ?_ | refine exP (by omega) ?_ | apply And.intro)))
  by_cases h0:L.length=0
  ·have h0':=eq_false (show ¬(0:Int)<L.length by omega)
   refine Zl mxd (ι:=Unit) (fun _ => [(3,.rop 2 (Gr g)),(4,.rop 1 (Tr t)),(5,InsS L),(6,I 0),(7,I 0)]) (fun _ => tab10 0) (fun _ => 0) () (by simp [E2]) rfl ?_
   intro _
   ((try refine qI ?_);(repeat ((first|with_reducible refine qU ?_ | simp only [Z6]);try simp (maxSteps:=9^7) +contextual only [↓ S2,S2,↓reduceIte,reduceNe,reduceEqDiff,reduceCtorEq,reduceLeDiff,reduceAdd,reduceLT,VQ,h0',decide_false,List.length_map]));(try simp +contextual (disch:=omega) only [Z2,h0',decide_false,List.length_map]);(with_reducible repeat' (first|intro h|refine And.intro (by omega) ?_ | refine exP (by omega) ?_ | apply And.intro)))
   all_goals try exact oF
   all_goals
    refine Zl mxd (ι:=Unit) (fun _ => [(3,.rop 2 (Gr g)),(4,.rop 1 (Tr t)),(5,InsS L),(6,I 0),(10,I 0)]) (fun _ => tab10 0) (fun _ => 0) () (by simp [E2]) rfl ?_
    intro _
    ((try refine qI ?_);(repeat ((first|with_reducible refine qU ?_ | simp only [Z6]);try simp (maxSteps:=9^7) +contextual only [↓ S2,S2,↓reduceIte,reduceNe,reduceEqDiff,reduceCtorEq,reduceLeDiff,reduceAdd,reduceLT,VQ,h0',decide_false,List.length_map]));(try simp +contextual (disch:=omega) only [Z2,h0',decide_false,List.length_map]);(with_reducible repeat' (first|intro h|refine And.intro (by omega) ?_ | refine exP (by omega) ?_ | apply And.intro)))
    all_goals try exact oF
    all_goals try (simp;omega)
  ·have h0':=eq_true (show (0:Int)<L.length by omega)
   refine Zl mxd (ι:={ i:Nat // i≤t.length }) (fun i=>[(3,.rop 2 (Gr g)),(4,.rop 1 (Tr t)),(5,InsS L),(6,I (sumA g t i.1)),(7,I i.1)]) (fun _ => tab10 0) (fun i=>t.length-i.1) ⟨0,by omega⟩ (by simp [E2,hs0]) rfl ?_
   rintro ⟨i,hi⟩
   dsimp only
   have hb1:=hsl i
   rcases nL i t.length with hlt|hge
   ·have hb2:=hsl (i+1)
    have hs2:=hs1 i
    ((try refine qI ?_);(repeat ((first|with_reducible refine qU ?_ | simp only [Z6]);try simp (maxSteps:=9^7) +contextual only [↓ S2,S2,↓reduceIte,reduceNe,reduceEqDiff,reduceCtorEq,reduceLeDiff,reduceAdd,reduceLT,VQ,h0',decide_true,List.length_map]));(try simp +contextual (disch:=omega) only [Z2,h0',decide_true,List.length_map]);(with_reducible repeat' (first|intro h|refine And.intro (by omega) ?_ | refine exP (by omega) ?_ | apply And.intro)))
    all_goals try exact oF
    refine callS.eq (hsy i) ?_
    ((try refine qI ?_);(repeat ((first|with_reducible refine qU ?_ | simp only [Z6]);try simp (maxSteps:=9^7) +contextual only [↓ S2,S2,↓reduceIte,reduceNe,reduceEqDiff,reduceCtorEq,reduceLeDiff,reduceAdd,reduceLT,VQ,]));(try simp +contextual (disch:=omega) only [Z2,]);(with_reducible repeat' (first|intro h|refine And.intro (by omega) ?_ | refine exP (by omega) ?_ | apply And.intro)))
    refine callS.eq (hfs _) ?_
    ((try refine qI ?_);(repeat ((first|with_reducible refine qU ?_ | simp only [Z6]);try simp (maxSteps:=9^7) +contextual only [↓ S2,S2,↓reduceIte,reduceNe,reduceEqDiff,reduceCtorEq,reduceLeDiff,reduceAdd,reduceLT,VQ,List.length_map]));(try simp +contextual (disch:=omega) only [Z2,List.length_map]);(with_reducible repeat' (first|intro h|refine And.intro (by omega) ?_ | refine exP (by omega) ?_ | apply And.intro)))
    all_goals try exact oF
    exact nx ⟨i+1,by omega⟩ (by dsimp only;omega) (by simp [E2,hs2]) rfl
   ·((try refine qI ?_);(repeat ((first|with_reducible refine qU ?_ | simp only [Z6]);try simp (maxSteps:=9^7) +contextual only [↓ S2,S2,↓reduceIte,reduceNe,reduceEqDiff,reduceCtorEq,reduceLeDiff,reduceAdd,reduceLT,VQ,h0',decide_true,List.length_map]));(try simp +contextual (disch:=omega) only [Z2,h0',decide_true,List.length_map]);(with_reducible repeat' (first|intro h|refine And.intro (by omega) ?_ | refine exP (by omega) ?_ | apply And.intro)))
    all_goals try exact oF
    have hie:i=t.length:=by omega
    subst hie
    have hsum:=hsum (fun e=>h0 (by rw [e];rfl))
    refine Zl mxd (ι:={ i:Nat // i≤L.length }) (fun i=>[(3,.rop 2 (Gr g)),(4,.rop 1 (Tr t)),(5,InsS L),(6,I L.length),(10,I i.1)]) (fun _ => tab10 0) (fun i=>L.length-i.1) ⟨0,by omega⟩ (by simp [E2,hsum]) rfl ?_
    rintro ⟨i,hi⟩
    dsimp only
    rcases nL i L.length with hlt|hge
    ·obtain ⟨c1,c2,c3⟩:=hall i hlt
     obtain ⟨⟨d1,d2⟩,d3⟩:=hat i hlt
     have ha:=hfa L[i]
     rw [c1] at ha
     have hx:=w12 L L[i]
     rw [ixI,c3] at hx
     have hf1:=p13 L[i] (by omega) (by omega) d3
     have hf2:=w14 L[i] (by omega) (by omega) d3
     generalize fmtI L[i]=fm at *
     have c2':=eq_true c2
     ((try refine qI ?_);(repeat ((first|with_reducible refine qU ?_ | simp only [Z6]);try simp (maxSteps:=9^7) +contextual only [↓ S2,S2,↓reduceIte,reduceNe,reduceEqDiff,reduceCtorEq,reduceLeDiff,reduceAdd,reduceLT,VQ,List.length_map]));(try simp +contextual (disch:=omega) only [Z2,List.length_map]);(with_reducible repeat' (first|intro h|refine And.intro (by omega) ?_ | refine exP (by omega) ?_ | apply And.intro)))
     all_goals try exact oF
     refine callS.eq ha ?_
     ((try refine qI ?_);(repeat ((first|with_reducible refine qU ?_ | simp only [Z6]);try simp (maxSteps:=9^7) +contextual only [↓ S2,S2,↓reduceIte,reduceNe,reduceEqDiff,reduceCtorEq,reduceLeDiff,reduceAdd,reduceLT,VQ,List.length_map,c2]));(try simp +contextual (disch:=omega) only [Z2,List.length_map,c2]);(with_reducible repeat' (first|intro h|refine And.intro (by omega) ?_ | refine exP (by omega) ?_ | apply And.intro)))
     all_goals try exact oF
     refine callS.eq hx ?_
     ((try refine qI ?_);(repeat ((first|with_reducible refine qU ?_ | simp only [Z6]);try simp (maxSteps:=9^7) +contextual only [↓ S2,S2,↓reduceIte,reduceNe,reduceEqDiff,reduceCtorEq,reduceLeDiff,reduceAdd,reduceLT,VQ,List.length_map,c2]));(try simp +contextual (disch:=omega) only [Z2,List.length_map,c2]);(with_reducible repeat' (first|intro h|refine And.intro (by omega) ?_ | refine exP (by omega) ?_ | apply And.intro)))
     all_goals try exact oF
     refine callS.eqT hf1 (tabH_10 0) (fun _ h=>h) ?_
     ((try refine qI ?_);(repeat ((first|with_reducible refine qU ?_ | simp only [Z6]);try simp (maxSteps:=9^7) +contextual only [↓ S2,S2,↓reduceIte,reduceNe,reduceEqDiff,reduceCtorEq,reduceLeDiff,reduceAdd,reduceLT,VQ,List.length_map]));(try simp +contextual (disch:=omega) only [Z2,List.length_map]);(with_reducible repeat' (first|intro h|refine And.intro (by omega) ?_ | refine exP (by omega) ?_ | apply And.intro)))
     all_goals try exact oF
     refine callS.eq hf2 ?_
     ((try refine qI ?_);(repeat ((first|with_reducible refine qU ?_ | simp only [Z6]);try simp (maxSteps:=9^7) +contextual only [↓ S2,S2,↓reduceIte,reduceNe,reduceEqDiff,reduceCtorEq,reduceLeDiff,reduceAdd,reduceLT,VQ,List.length_map]));(try simp +contextual (disch:=omega) only [Z2,List.length_map]);(with_reducible repeat' (first|intro h|refine And.intro (by omega) ?_ | refine exP (by omega) ?_ | apply And.intro)))
     all_goals try exact oF
     exact nx ⟨i+1,by omega⟩ (by dsimp only;omega) (by simp [E2]) rfl
    ·((try refine qI ?_);(repeat ((first|with_reducible refine qU ?_ | simp only [Z6]);try simp (maxSteps:=9^7) +contextual only [↓ S2,S2,↓reduceIte,reduceNe,reduceEqDiff,reduceCtorEq,reduceLeDiff,reduceAdd,reduceLT,VQ,List.length_map]));(try simp +contextual (disch:=omega) only [Z2,List.length_map]);(with_reducible repeat' (first|intro h|refine And.intro (by omega) ?_ | refine exP (by omega) ?_ | apply And.intro)))
     all_goals try exact oF
end Go.Proofs.YtofcbmnplanmkaaDoor
