/- The tied card of the law holds. No condition. -/
import Derived.Test.YtkmedfejmndmjaaGreatDoorPno12
set_option maxHeartbeats 40000000
set_option maxRecDepth 20000
set_option linter.unusedSimpArgs false
set_option linter.unusedVariables false
namespace Go.Proofs.YtkmedfejmndmjaaGreatDoor
open Go.Gh
open Nat (reduceEqDiff reduceLeDiff reduceAdd reduceLT)
open Int (reduceNe)
open Go.Lib
theorem p5 (bs:List UInt8):PureT Tryz.prog (tabE 1 3) 5 [Bs bs] (· = B true):=by
 refine Z6 mxd i5 rfl (by simp) ?_;simp (maxSteps:=9^7) only[↓ S2,S2,Z7,↓reduceIte,reduceNe,reduceEqDiff,reduceCtorEq,reduceLeDiff,reduceAdd,reduceLT]
 ((try refine qI ?_);(repeat ((first|with_reducible refine qU ?_ | simp only[Z9]);try simp (maxSteps:=9^7) +contextual only[↓ S2,S2,↓reduceIte,reduceNe,reduceEqDiff,reduceCtorEq,reduceLeDiff,reduceAdd,reduceLT,VQ,]));(try simp +contextual (disch:=omega) only[Z2,]);(with_reducible repeat' (first|intro h|refine And.intro (by omega) ?_ | refine exP (by omega) ?_ | apply And.intro)))
 refine callS.eq (w8 bs) ?_
 by_cases hb:(1048576:Int)<bs.length
 ·have hb':=eq_true hb
  ((try refine qI ?_);(repeat ((first|with_reducible refine qU ?_ | simp only[Z9]);try simp (maxSteps:=9^7) +contextual only[↓ S2,S2,↓reduceIte,reduceNe,reduceEqDiff,reduceCtorEq,reduceLeDiff,reduceAdd,reduceLT,VQ,hb',decide_true]));(try simp +contextual (disch:=omega) only[Z2,hb',decide_true]);(with_reducible repeat' (first|intro h|refine And.intro (by omega) ?_ | refine exP (by omega) ?_ | apply And.intro)))
 ·have hb':=eq_false hb
  ((try refine qI ?_);(repeat ((first|with_reducible refine qU ?_ | simp only[Z9]);try simp (maxSteps:=9^7) +contextual only[↓ S2,S2,↓reduceIte,reduceNe,reduceEqDiff,reduceCtorEq,reduceLeDiff,reduceAdd,reduceLT,VQ,hb',decide_false]));(try simp +contextual (disch:=omega) only[Z2,hb',decide_false]);(with_reducible repeat' (first|intro h|refine And.intro (by omega) ?_ | refine exP (by omega) ?_ | apply And.intro)))
  refine callS.of ((w20 bs (by omega)).frame _) ?_
  rintro _ _ ⟨⟨t,ht,rfl⟩,rfl⟩ _
  have q1:=p13 t (by omega)
  have q2:=w16 t (by omega)
  have q3:=p13 ⟨(Z8 t++[32,41]).toArray⟩ (by rw[chA];simp only[List.length_append,List.length_cons,List.length_nil];omega)
  rw[chA] at q3
  have he:=err_off (Z8 t)
  have hm:=err_more (Z8 t)
  have hz:=parV_sz (Z8 t)
  generalize Zj (Z8 t++[32,41])=M at *
  generalize Zj (Z8 t)=P at *
  obtain ⟨e,b⟩:=P
  obtain ⟨e3,b3⟩:=M
  dsimp only at q1 q2 q3 he hm hz
  have hag:Go.Gh.isAgg (Ex e)=true:=by rw[ZC];rfl
  have hag3:Go.Gh.isAgg (Ex e3)=true:=by rw[ZC];rfl
  have hq:=w21 e hz.2
  ((try refine qI ?_);(repeat ((first|with_reducible refine qU ?_ | simp only[Z9]);try simp (maxSteps:=9^7) +contextual only[↓ S2,S2,↓reduceIte,reduceNe,reduceEqDiff,reduceCtorEq,reduceLeDiff,reduceAdd,reduceLT,VQ,]));(try simp +contextual (disch:=omega) only[Z2,]);(with_reducible repeat' (first|intro h|refine And.intro (by omega) ?_ | refine exP (by omega) ?_ | apply And.intro)))
  refine callS.eqT q1 (YM (by decide)) (fun _ h=>h) ?_
  ((try refine qI ?_);(repeat ((first|with_reducible refine qU ?_ | simp only[Z9]);try simp (maxSteps:=9^7) +contextual only[↓ S2,S2,↓reduceIte,reduceNe,reduceEqDiff,reduceCtorEq,reduceLeDiff,reduceAdd,reduceLT,VQ,XE,hag]));(try simp +contextual (disch:=omega) only[Z2,XE,hag]);(with_reducible repeat' (first|intro h|refine And.intro (by omega) ?_ | refine exP (by omega) ?_ | apply And.intro)))
  ((try refine qI ?_);(repeat ((first|with_reducible refine qU ?_ | simp only[Z9]);try simp (maxSteps:=9^7) +contextual only[↓ S2,S2,↓reduceIte,reduceNe,reduceEqDiff,reduceCtorEq,reduceLeDiff,reduceAdd,reduceLT,VQ,XE,hag]));(try simp +contextual (disch:=omega) only[Z2,XE,hag]);(with_reducible repeat' (first|intro h|refine And.intro (by omega) ?_ | refine exP (by omega) ?_ | apply And.intro)))
  refine callS.eq q2 ?_
  ((try refine qI ?_);(repeat ((first|with_reducible refine qU ?_ | simp only[Z9]);try simp (maxSteps:=9^7) +contextual only[↓ S2,S2,↓reduceIte,reduceNe,reduceEqDiff,reduceCtorEq,reduceLeDiff,reduceAdd,reduceLT,VQ,XE,hag]));(try simp +contextual (disch:=omega) only[Z2,XE,hag]);(with_reducible repeat' (first|intro h|refine And.intro (by omega) ?_ | refine exP (by omega) ?_ | apply And.intro)))
  ((try refine qI ?_);(repeat ((first|with_reducible refine qU ?_ | simp only[Z9]);try simp (maxSteps:=9^7) +contextual only[↓ S2,S2,↓reduceIte,reduceNe,reduceEqDiff,reduceCtorEq,reduceLeDiff,reduceAdd,reduceLT,VQ,XE,hag]));(try simp +contextual (disch:=omega) only[Z2,XE,hag]);(with_reducible repeat' (first|intro h|refine And.intro (by omega) ?_ | refine exP (by omega) ?_ | apply And.intro)))
  refine callS.eq hq ?_
  by_cases h0:0≤b
  ·have h0':=eq_true h0
   have h1:b≤(Z8 t).length ∧ e=zE:=he.elim (fun h=>absurd h0 (by omega)) (fun h=>⟨h.2.1,h.2.2⟩)
   obtain ⟨h1,rfl⟩:=h1
   have hk:(zE).kind = 0:=rfl
   have har:(zE).args = []:=rfl
   ((try refine qI ?_);(repeat ((first|with_reducible refine qU ?_ | simp only[Z9]);try simp (maxSteps:=9^7) +contextual only[↓ S2,S2,↓reduceIte,reduceNe,reduceEqDiff,reduceCtorEq,reduceLeDiff,reduceAdd,reduceLT,VQ,XE,hag,h0',hk,har]));(try simp +contextual (disch:=omega) only[Z2,XE,hag,h0',hk,har]);(with_reducible repeat' (first|intro h|refine And.intro (by omega) ?_ | refine exP (by omega) ?_ | apply And.intro)))
   ((try refine qI ?_);(repeat ((first|with_reducible refine qU ?_ | simp only[Z9]);try simp (maxSteps:=9^7) +contextual only[↓ S2,S2,↓reduceIte,reduceNe,reduceEqDiff,reduceCtorEq,reduceLeDiff,reduceAdd,reduceLT,VQ,XE,hag,h0',hk,har]));(try simp +contextual (disch:=omega) only[Z2,XE,hag,h0',hk,har]);(with_reducible repeat' (first|intro h|refine And.intro (by omega) ?_ | refine exP (by omega) ?_ | apply And.intro)))
   all_goals first|rfl|(exfalso;omega)|trace_state
  ·have h0':=eq_false h0
   obtain rfl:b = -1:=by rcases he with h|⟨h,_⟩<;>omega
   have hm:=hm rfl
   ((try refine qI ?_);(repeat ((first|with_reducible refine qU ?_ | simp only[Z9]);try simp (maxSteps:=9^7) +contextual only[↓ S2,S2,↓reduceIte,reduceNe,reduceEqDiff,reduceCtorEq,reduceLeDiff,reduceAdd,reduceLT,VQ,XE,hag,h0']));(try simp +contextual (disch:=omega) only[Z2,XE,hag,h0']);(with_reducible repeat' (first|intro h|refine And.intro (by omega) ?_ | refine exP (by omega) ?_ | apply And.intro)))
   ((try refine qI ?_);(repeat ((first|with_reducible refine qU ?_ | simp only[Z9]);try simp (maxSteps:=9^7) +contextual only[↓ S2,S2,↓reduceIte,reduceNe,reduceEqDiff,reduceCtorEq,reduceLeDiff,reduceAdd,reduceLT,VQ,XE,hag,h0']));(try simp +contextual (disch:=omega) only[Z2,XE,hag,h0']);(with_reducible repeat' (first|intro h|refine And.intro (by omega) ?_ | refine exP (by omega) ?_ | apply And.intro)))
   all_goals first|(simp only[chA,List.length_append,List.length_cons,List.length_nil];omega)|skip
   refine callS.eqT q3 (YM (by decide)) (fun _ h=>h) ?_
   ((try refine qI ?_);(repeat ((first|with_reducible refine qU ?_ | simp only[Z9]);try simp (maxSteps:=9^7) +contextual only[↓ S2,S2,↓reduceIte,reduceNe,reduceEqDiff,reduceCtorEq,reduceLeDiff,reduceAdd,reduceLT,VQ,XE,hag3]));(try simp +contextual (disch:=omega) only[Z2,XE,hag3]);(with_reducible repeat' (first|intro h|refine And.intro (by omega) ?_ | refine exP (by omega) ?_ | apply And.intro)))
   ((try refine qI ?_);(repeat ((first|with_reducible refine qU ?_ | simp only[Z9]);try simp (maxSteps:=9^7) +contextual only[↓ S2,S2,↓reduceIte,reduceNe,reduceEqDiff,reduceCtorEq,reduceLeDiff,reduceAdd,reduceLT,VQ,XE,hag3]));(try simp +contextual (disch:=omega) only[Z2,XE,hag3]);(with_reducible repeat' (first|intro h|refine And.intro (by omega) ?_ | refine exP (by omega) ?_ | apply And.intro)))
   all_goals first|rfl|(exfalso;omega)|(rw[decide_eq_true (by omega)];done)|trace_state
theorem p3 (bs:List UInt8):PureT Tryz.prog (tabE 1 3) 3 [Bs bs] (· = B true):=by
 refine Z6 mxd i3 rfl (by simp) ?_;simp (maxSteps:=9^7) only[↓ S2,S2,Z7,↓reduceIte,reduceNe,reduceEqDiff,reduceCtorEq,reduceLeDiff,reduceAdd,reduceLT]
 ((try refine qI ?_);(repeat ((first|with_reducible refine qU ?_ | simp only[Z9]);try simp (maxSteps:=9^7) +contextual only[↓ S2,S2,↓reduceIte,reduceNe,reduceEqDiff,reduceCtorEq,reduceLeDiff,reduceAdd,reduceLT,VQ,]));(try simp +contextual (disch:=omega) only[Z2,]);(with_reducible repeat' (first|intro h|refine And.intro (by omega) ?_ | refine exP (by omega) ?_ | apply And.intro)))
 refine callS.eq (w8 bs) ?_
 by_cases hb:(1048576:Int)<bs.length
 ·have hb':=eq_true hb
  ((try refine qI ?_);(repeat ((first|with_reducible refine qU ?_ | simp only[Z9]);try simp (maxSteps:=9^7) +contextual only[↓ S2,S2,↓reduceIte,reduceNe,reduceEqDiff,reduceCtorEq,reduceLeDiff,reduceAdd,reduceLT,VQ,hb',decide_true]));(try simp +contextual (disch:=omega) only[Z2,hb',decide_true]);(with_reducible repeat' (first|intro h|refine And.intro (by omega) ?_ | refine exP (by omega) ?_ | apply And.intro)))
 ·have hb':=eq_false hb
  ((try refine qI ?_);(repeat ((first|with_reducible refine qU ?_ | simp only[Z9]);try simp (maxSteps:=9^7) +contextual only[↓ S2,S2,↓reduceIte,reduceNe,reduceEqDiff,reduceCtorEq,reduceLeDiff,reduceAdd,reduceLT,VQ,hb',decide_false]));(try simp +contextual (disch:=omega) only[Z2,hb',decide_false]);(with_reducible repeat' (first|intro h|refine And.intro (by omega) ?_ | refine exP (by omega) ?_ | apply And.intro)))
  refine callS.of ((w9 bs (by omega)).frame _) ?_
  rintro _ _ ⟨⟨e,hsx,rfl⟩,rfl⟩ _
  obtain ⟨v1,v2⟩:=shEx_ok hsx
  have hag:Go.Gh.isAgg (Ex e)=true:=by rw[ZC];rfl
  have hfl:=fmt_len e
  have f1:=p10 e v1 v2
  have f2:=w11 e v1 v2
  have f3:=w12 e v1 v2
  have f4:=w15 e
  have q1:=p13 ⟨(fmtE e).toArray⟩ (by rw[chA];omega)
  have q2:=w14 ⟨(fmtE e).toArray⟩ (by rw[chA];omega)
  rw[chA] at q1 q2
  ((try refine qI ?_);(repeat ((first|with_reducible refine qU ?_ | simp only[Z9]);try simp (maxSteps:=9^7) +contextual only[↓ S2,S2,↓reduceIte,reduceNe,reduceEqDiff,reduceCtorEq,reduceLeDiff,reduceAdd,reduceLT,VQ,XE,hag]));(try simp +contextual (disch:=omega) only[Z2,XE,hag]);(with_reducible repeat' (first|intro h|refine And.intro (by omega) ?_ | refine exP (by omega) ?_ | apply And.intro)))
  refine callS.eqT f1 (Zf 1) Tryz.inE ?_
  ((try refine qI ?_);(repeat ((first|with_reducible refine qU ?_ | simp only[Z9]);try simp (maxSteps:=9^7) +contextual only[↓ S2,S2,↓reduceIte,reduceNe,reduceEqDiff,reduceCtorEq,reduceLeDiff,reduceAdd,reduceLT,VQ,XE,hag]));(try simp +contextual (disch:=omega) only[Z2,XE,hag]);(with_reducible repeat' (first|intro h|refine And.intro (by omega) ?_ | refine exP (by omega) ?_ | apply And.intro)))
  ((try refine qI ?_);(repeat ((first|with_reducible refine qU ?_ | simp only[Z9]);try simp (maxSteps:=9^7) +contextual only[↓ S2,S2,↓reduceIte,reduceNe,reduceEqDiff,reduceCtorEq,reduceLeDiff,reduceAdd,reduceLT,VQ,XE,hag]));(try simp +contextual (disch:=omega) only[Z2,XE,hag]);(with_reducible repeat' (first|intro h|refine And.intro (by omega) ?_ | refine exP (by omega) ?_ | apply And.intro)))
  refine callS.eq f2 ?_
  by_cases hv:YZ e=true
  ·have hfe:=fmt_eq hv
   have hne:=txt_ne hv
   have hpl:=parsed_law hv
   rw[hfe] at q1 q2 hfl ⊢
   rw[hv] at f3
   generalize ZO e=A at *
   have hs0:((⟨A.toArray⟩:ByteArray)=⟨#[]⟩)=False:=eq_false fun h=>hne (by have:=congrArg Z8 h;rw[chA] at this;exact this)
   ((try refine qI ?_);(repeat ((first|with_reducible refine qU ?_ | simp only[Z9]);try simp (maxSteps:=9^7) +contextual only[↓ S2,S2,↓reduceIte,reduceNe,reduceEqDiff,reduceCtorEq,reduceLeDiff,reduceAdd,reduceLT,VQ,XE,hag,hs0]));(try simp +contextual (disch:=omega) only[Z2,XE,hag,hs0]);(with_reducible repeat' (first|intro h|refine And.intro (by omega) ?_ | refine exP (by omega) ?_ | apply And.intro)))
   ((try refine qI ?_);(repeat ((first|with_reducible refine qU ?_ | simp only[Z9]);try simp (maxSteps:=9^7) +contextual only[↓ S2,S2,↓reduceIte,reduceNe,reduceEqDiff,reduceCtorEq,reduceLeDiff,reduceAdd,reduceLT,VQ,XE,hag,hs0]));(try simp +contextual (disch:=omega) only[Z2,XE,hag,hs0]);(with_reducible repeat' (first|intro h|refine And.intro (by omega) ?_ | refine exP (by omega) ?_ | apply And.intro)))
   refine callS.eq f3 ?_
   ((try refine qI ?_);(repeat ((first|with_reducible refine qU ?_ | simp only[Z9]);try simp (maxSteps:=9^7) +contextual only[↓ S2,S2,↓reduceIte,reduceNe,reduceEqDiff,reduceCtorEq,reduceLeDiff,reduceAdd,reduceLT,VQ,XE,hag,hs0]));(try simp +contextual (disch:=omega) only[Z2,XE,hag,hs0]);(with_reducible repeat' (first|intro h|refine And.intro (by omega) ?_ | refine exP (by omega) ?_ | apply And.intro)))
   refine callS.eqT q1 (YM (by decide)) (fun _ h=>h) ?_
   rcases hpl with ⟨h1,h2⟩|⟨h1,h2⟩
   ·rw[h2]
    dsimp only
    have hlen:¬(ZA A).1.length = 0:=fun h=>h1 (List.length_eq_zero_iff.1 h)
    generalize ZA A=K at *
    ((try refine qI ?_);(repeat ((first|with_reducible refine qU ?_ | simp only[Z9]);try simp (maxSteps:=9^7) +contextual only[↓ S2,S2,↓reduceIte,reduceNe,reduceEqDiff,reduceCtorEq,reduceLeDiff,reduceAdd,reduceLT,VQ,XE,hag,hs0]));(try simp +contextual (disch:=omega) only[Z2,XE,hag,hs0]);(with_reducible repeat' (first|intro h|refine And.intro (by omega) ?_ | refine exP (by omega) ?_ | apply And.intro)))
    ((try refine qI ?_);(repeat ((first|with_reducible refine qU ?_ | simp only[Z9]);try simp (maxSteps:=9^7) +contextual only[↓ S2,S2,↓reduceIte,reduceNe,reduceEqDiff,reduceCtorEq,reduceLeDiff,reduceAdd,reduceLT,VQ,XE,hag,hs0]));(try simp +contextual (disch:=omega) only[Z2,XE,hag,hs0]);(with_reducible repeat' (first|intro h|refine And.intro (by omega) ?_ | refine exP (by omega) ?_ | apply And.intro)))
    refine callS.eq q2 ?_
    ((try refine qI ?_);(repeat ((first|with_reducible refine qU ?_ | simp only[Z9]);try simp (maxSteps:=9^7) +contextual only[↓ S2,S2,↓reduceIte,reduceNe,reduceEqDiff,reduceCtorEq,reduceLeDiff,reduceAdd,reduceLT,VQ,XE,hag,hs0,List.length_map]));(try simp +contextual (disch:=omega) only[Z2,XE,hag,hs0,List.length_map]);(with_reducible repeat' (first|intro h|refine And.intro (by omega) ?_ | refine exP (by omega) ?_ | apply And.intro)))
    ((try refine qI ?_);(repeat ((first|with_reducible refine qU ?_ | simp only[Z9]);try simp (maxSteps:=9^7) +contextual only[↓ S2,S2,↓reduceIte,reduceNe,reduceEqDiff,reduceCtorEq,reduceLeDiff,reduceAdd,reduceLT,VQ,XE,hag,hs0,List.length_map]));(try simp +contextual (disch:=omega) only[Z2,XE,hag,hs0,List.length_map]);(with_reducible repeat' (first|intro h|refine And.intro (by omega) ?_ | refine exP (by omega) ?_ | apply And.intro)))
    all_goals try exact oF
    refine callS.eq f4 ?_
    ((try refine qI ?_);(repeat ((first|with_reducible refine qU ?_ | simp only[Z9]);try simp (maxSteps:=9^7) +contextual only[↓ S2,S2,↓reduceIte,reduceNe,reduceEqDiff,reduceCtorEq,reduceLeDiff,reduceAdd,reduceLT,VQ,]));(try simp +contextual (disch:=omega) only[Z2,]);(with_reducible repeat' (first|intro h|refine And.intro (by omega) ?_ | refine exP (by omega) ?_ | apply And.intro)))
   ·have hag2:Go.Gh.isAgg (Ex (Zj A).1)=true:=by rw[ZC];rfl
    have h2':=eq_true h2
    generalize Zj A=P at *
    have hlen:(ZA A).1.length = 0:=by rw[h1];rfl
    generalize ZA A=K at *
    ((try refine qI ?_);(repeat ((first|with_reducible refine qU ?_ | simp only[Z9]);try simp (maxSteps:=9^7) +contextual only[↓ S2,S2,↓reduceIte,reduceNe,reduceEqDiff,reduceCtorEq,reduceLeDiff,reduceAdd,reduceLT,VQ,XE,hag2,hs0]));(try simp +contextual (disch:=omega) only[Z2,XE,hag2,hs0]);(with_reducible repeat' (first|intro h|refine And.intro (by omega) ?_ | refine exP (by omega) ?_ | apply And.intro)))
    ((try refine qI ?_);(repeat ((first|with_reducible refine qU ?_ | simp only[Z9]);try simp (maxSteps:=9^7) +contextual only[↓ S2,S2,↓reduceIte,reduceNe,reduceEqDiff,reduceCtorEq,reduceLeDiff,reduceAdd,reduceLT,VQ,XE,hag2,hs0]));(try simp +contextual (disch:=omega) only[Z2,XE,hag2,hs0]);(with_reducible repeat' (first|intro h|refine And.intro (by omega) ?_ | refine exP (by omega) ?_ | apply And.intro)))
    refine callS.eq q2 ?_
    ((try refine qI ?_);(repeat ((first|with_reducible refine qU ?_ | simp only[Z9]);try simp (maxSteps:=9^7) +contextual only[↓ S2,S2,↓reduceIte,reduceNe,reduceEqDiff,reduceCtorEq,reduceLeDiff,reduceAdd,reduceLT,VQ,XE,hag,hs0,h2',List.length_map]));(try simp +contextual (disch:=omega) only[Z2,XE,hag,hs0,h2',List.length_map]);(with_reducible repeat' (first|intro h|refine And.intro (by omega) ?_ | refine exP (by omega) ?_ | apply And.intro)))
    ((try refine qI ?_);(repeat ((first|with_reducible refine qU ?_ | simp only[Z9]);try simp (maxSteps:=9^7) +contextual only[↓ S2,S2,↓reduceIte,reduceNe,reduceEqDiff,reduceCtorEq,reduceLeDiff,reduceAdd,reduceLT,VQ,XE,hag,hs0,h2',List.length_map]));(try simp +contextual (disch:=omega) only[Z2,XE,hag,hs0,h2',List.length_map]);(with_reducible repeat' (first|intro h|refine And.intro (by omega) ?_ | refine exP (by omega) ?_ | apply And.intro)))
    all_goals first|rfl|(exfalso;omega)|trace_state
  ·have hv':=Bool.eq_false_iff.2 hv
   have hfe:=fmt_ne e hv'
   rw[hfe] at q1 q2 ⊢
   rw[hv'] at f3
   have hP:Zj []=(zE,0):=rfl
   rw[hP] at q1
   have hag2:Go.Gh.isAgg (Ex zE)=true:=by rw[ZC];rfl
   ((try refine qI ?_);(repeat ((first|with_reducible refine qU ?_ | simp only[Z9]);try simp (maxSteps:=9^7) +contextual only[↓ S2,S2,↓reduceIte,reduceNe,reduceEqDiff,reduceCtorEq,reduceLeDiff,reduceAdd,reduceLT,VQ,XE,hag]));(try simp +contextual (disch:=omega) only[Z2,XE,hag]);(with_reducible repeat' (first|intro h|refine And.intro (by omega) ?_ | refine exP (by omega) ?_ | apply And.intro)))
   ((try refine qI ?_);(repeat ((first|with_reducible refine qU ?_ | simp only[Z9]);try simp (maxSteps:=9^7) +contextual only[↓ S2,S2,↓reduceIte,reduceNe,reduceEqDiff,reduceCtorEq,reduceLeDiff,reduceAdd,reduceLT,VQ,XE,hag]));(try simp +contextual (disch:=omega) only[Z2,XE,hag]);(with_reducible repeat' (first|intro h|refine And.intro (by omega) ?_ | refine exP (by omega) ?_ | apply And.intro)))
   refine callS.eq f3 ?_
   ((try refine qI ?_);(repeat ((first|with_reducible refine qU ?_ | simp only[Z9]);try simp (maxSteps:=9^7) +contextual only[↓ S2,S2,↓reduceIte,reduceNe,reduceEqDiff,reduceCtorEq,reduceLeDiff,reduceAdd,reduceLT,VQ,XE,hag]));(try simp +contextual (disch:=omega) only[Z2,XE,hag]);(with_reducible repeat' (first|intro h|refine And.intro (by omega) ?_ | refine exP (by omega) ?_ | apply And.intro)))
   refine callS.eqT q1 (YM (by decide)) (fun _ h=>h) ?_
   ((try refine qI ?_);(repeat ((first|with_reducible refine qU ?_ | simp only[Z9]);try simp (maxSteps:=9^7) +contextual only[↓ S2,S2,↓reduceIte,reduceNe,reduceEqDiff,reduceCtorEq,reduceLeDiff,reduceAdd,reduceLT,VQ,XE,hag2]));(try simp +contextual (disch:=omega) only[Z2,XE,hag2]);(with_reducible repeat' (first|intro h|refine And.intro (by omega) ?_ | refine exP (by omega) ?_ | apply And.intro)))
   ((try refine qI ?_);(repeat ((first|with_reducible refine qU ?_ | simp only[Z9]);try simp (maxSteps:=9^7) +contextual only[↓ S2,S2,↓reduceIte,reduceNe,reduceEqDiff,reduceCtorEq,reduceLeDiff,reduceAdd,reduceLT,VQ,XE,hag2]));(try simp +contextual (disch:=omega) only[Z2,XE,hag2]);(with_reducible repeat' (first|intro h|refine And.intro (by omega) ?_ | refine exP (by omega) ?_ | apply And.intro)))
   refine callS.eq q2 ?_
   ((try refine qI ?_);(repeat ((first|with_reducible refine qU ?_ | simp only[Z9]);try simp (maxSteps:=9^7) +contextual only[↓ S2,S2,↓reduceIte,reduceNe,reduceEqDiff,reduceCtorEq,reduceLeDiff,reduceAdd,reduceLT,VQ,XE,hag2]));(try simp +contextual (disch:=omega) only[Z2,XE,hag2]);(with_reducible repeat' (first|intro h|refine And.intro (by omega) ?_ | refine exP (by omega) ?_ | apply And.intro)))
   ((try refine qI ?_);(repeat ((first|with_reducible refine qU ?_ | simp only[Z9]);try simp (maxSteps:=9^7) +contextual only[↓ S2,S2,↓reduceIte,reduceNe,reduceEqDiff,reduceCtorEq,reduceLeDiff,reduceAdd,reduceLT,VQ,XE,hag2]));(try simp +contextual (disch:=omega) only[Z2,XE,hag2]);(with_reducible repeat' (first|intro h|refine And.intro (by omega) ?_ | refine exP (by omega) ?_ | apply And.intro)))
   all_goals first|rfl|(exfalso;omega)|trace_state
theorem p7 (bs:List UInt8):PureT Tryz.prog (tabE 1 3) 7 [Bs bs] (· = B true):=by
 refine Z6 mxd i7 rfl (by simp) ?_;simp (maxSteps:=9^7) only[↓ S2,S2,Z7,↓reduceIte,reduceNe,reduceEqDiff,reduceCtorEq,reduceLeDiff,reduceAdd,reduceLT]
 ((try refine qI ?_);(repeat ((first|with_reducible refine qU ?_ | simp only[Z9]);try simp (maxSteps:=9^7) +contextual only[↓ S2,S2,↓reduceIte,reduceNe,reduceEqDiff,reduceCtorEq,reduceLeDiff,reduceAdd,reduceLT,VQ,]));(try simp +contextual (disch:=omega) only[Z2,]);(with_reducible repeat' (first|intro h|refine And.intro (by omega) ?_ | refine exP (by omega) ?_ | apply And.intro)))
 refine callS.eq (w8 bs) ?_
 by_cases hb:(1048576:Int)<bs.length
 ·have hb':=eq_true hb
  ((try refine qI ?_);(repeat ((first|with_reducible refine qU ?_ | simp only[Z9]);try simp (maxSteps:=9^7) +contextual only[↓ S2,S2,↓reduceIte,reduceNe,reduceEqDiff,reduceCtorEq,reduceLeDiff,reduceAdd,reduceLT,VQ,hb',decide_true]));(try simp +contextual (disch:=omega) only[Z2,hb',decide_true]);(with_reducible repeat' (first|intro h|refine And.intro (by omega) ?_ | refine exP (by omega) ?_ | apply And.intro)))
 ·have hb':=eq_false hb
  ((try refine qI ?_);(repeat ((first|with_reducible refine qU ?_ | simp only[Z9]);try simp (maxSteps:=9^7) +contextual only[↓ S2,S2,↓reduceIte,reduceNe,reduceEqDiff,reduceCtorEq,reduceLeDiff,reduceAdd,reduceLT,VQ,hb',decide_false]));(try simp +contextual (disch:=omega) only[Z2,hb',decide_false]);(with_reducible repeat' (first|intro h|refine And.intro (by omega) ?_ | refine exP (by omega) ?_ | apply And.intro)))
  refine callS.of ((w24 bs (by omega)).frame _) ?_
  rintro _ _ ⟨⟨t,ht,rfl⟩,rfl⟩ _
  have n1:=p23 t (by omega)
  have n2:=w22 t (by omega)
  have q1:=p13 t (by omega)
  have he:=err_off (Z8 t)
  have hnl:=fun e (h:Zj (Z8 t)=(e, -1))=>normal_law (l:=Z8 t) (e:=e) h
  have hok:=fun e (h:Zj (Z8 t)=(e, -1))=>(parV_ok (l:=Z8 t) (e:=e) h).1
  generalize Zj (Z8 t)=P at *
  obtain ⟨e,b⟩:=P
  dsimp only at n1 n2 q1 he
  have hag:Go.Gh.isAgg (Ex e)=true:=by rw[ZC];rfl
  ((try refine qI ?_);(repeat ((first|with_reducible refine qU ?_ | simp only[Z9]);try simp (maxSteps:=9^7) +contextual only[↓ S2,S2,↓reduceIte,reduceNe,reduceEqDiff,reduceCtorEq,reduceLeDiff,reduceAdd,reduceLT,VQ,]));(try simp +contextual (disch:=omega) only[Z2,]);(with_reducible repeat' (first|intro h|refine And.intro (by omega) ?_ | refine exP (by omega) ?_ | apply And.intro)))
  refine callS.eqT n1 (YM (by decide)) (fun _ h=>h) ?_
  by_cases h0:0≤b
  ·have h0':(b<0)=False:=eq_false (by omega)
   rw[if_pos h0,decide_eq_true (show b≥0 from h0)] at n2
   rw[if_pos h0,decide_eq_true (show b≥0 from h0)]
   ((try refine qI ?_);(repeat ((first|with_reducible refine qU ?_ | simp only[Z9]);try simp (maxSteps:=9^7) +contextual only[↓ S2,S2,↓reduceIte,reduceNe,reduceEqDiff,reduceCtorEq,reduceLeDiff,reduceAdd,reduceLT,VQ,]));(try simp +contextual (disch:=omega) only[Z2,]);(with_reducible repeat' (first|intro h|refine And.intro (by omega) ?_ | refine exP (by omega) ?_ | apply And.intro)))
   refine callS.eq n2 ?_
   ((try refine qI ?_);(repeat ((first|with_reducible refine qU ?_ | simp only[Z9]);try simp (maxSteps:=9^7) +contextual only[↓ S2,S2,↓reduceIte,reduceNe,reduceEqDiff,reduceCtorEq,reduceLeDiff,reduceAdd,reduceLT,VQ,]));(try simp +contextual (disch:=omega) only[Z2,]);(with_reducible repeat' (first|intro h|refine And.intro (by omega) ?_ | refine exP (by omega) ?_ | apply And.intro)))
   refine callS.eqT q1 (YM (by decide)) (fun _ h=>h) ?_
   ((try refine qI ?_);(repeat ((first|with_reducible refine qU ?_ | simp only[Z9]);try simp (maxSteps:=9^7) +contextual only[↓ S2,S2,↓reduceIte,reduceNe,reduceEqDiff,reduceCtorEq,reduceLeDiff,reduceAdd,reduceLT,VQ,XE,hag,h0']));(try simp +contextual (disch:=omega) only[Z2,XE,hag,h0']);(with_reducible repeat' (first|intro h|refine And.intro (by omega) ?_ | refine exP (by omega) ?_ | apply And.intro)))
   ((try refine qI ?_);(repeat ((first|with_reducible refine qU ?_ | simp only[Z9]);try simp (maxSteps:=9^7) +contextual only[↓ S2,S2,↓reduceIte,reduceNe,reduceEqDiff,reduceCtorEq,reduceLeDiff,reduceAdd,reduceLT,VQ,XE,hag,h0']));(try simp +contextual (disch:=omega) only[Z2,XE,hag,h0']);(with_reducible repeat' (first|intro h|refine And.intro (by omega) ?_ | refine exP (by omega) ?_ | apply And.intro)))
   all_goals first|rfl|(exfalso;omega)|trace_state
  ·obtain rfl:b = -1:=by rcases he with h|⟨h,_⟩<;>omega
   have hv:=hok e rfl
   have hnl:=hnl e rfl
   have hfl:=fmt_len e
   have hfe:=fmt_eq hv
   rw[if_neg h0,decide_eq_false (show ¬(-1:Int)≥0 from h0),hfe] at n2
   rw[if_neg h0,decide_eq_false (show ¬(-1:Int)≥0 from h0),hfe]
   rw[hfe] at hfl
   have f4:=w15 e
   have q3:=p13 ⟨(ZO e).toArray⟩ (by rw[chA];omega)
   have n3:=p23 ⟨(ZO e).toArray⟩ (by rw[chA];omega)
   rw[chA] at q3 n3
   by_cases hl:(ZO e).length ≤ 160
   ·have hp:=hnl hl
    rw[hp] at q3 n3
    dsimp only at q3 n3
    rw[if_neg h0,decide_eq_false (show ¬(-1:Int)≥0 from h0),hfe] at n3
    generalize ZO e=A at *
    ((try refine qI ?_);(repeat ((first|with_reducible refine qU ?_ | simp only[Z9]);try simp (maxSteps:=9^7) +contextual only[↓ S2,S2,↓reduceIte,reduceNe,reduceEqDiff,reduceCtorEq,reduceLeDiff,reduceAdd,reduceLT,VQ,]));(try simp +contextual (disch:=omega) only[Z2,]);(with_reducible repeat' (first|intro h|refine And.intro (by omega) ?_ | refine exP (by omega) ?_ | apply And.intro)))
    refine callS.eq n2 ?_
    ((try refine qI ?_);(repeat ((first|with_reducible refine qU ?_ | simp only[Z9]);try simp (maxSteps:=9^7) +contextual only[↓ S2,S2,↓reduceIte,reduceNe,reduceEqDiff,reduceCtorEq,reduceLeDiff,reduceAdd,reduceLT,VQ,chA]));(try simp +contextual (disch:=omega) only[Z2,chA]);(with_reducible repeat' (first|intro h|refine And.intro (by omega) ?_ | refine exP (by omega) ?_ | apply And.intro)))
    all_goals try exact oF
    refine callS.eqT q1 (YM (by decide)) (fun _ h=>h) ?_
    ((try refine qI ?_);(repeat ((first|with_reducible refine qU ?_ | simp only[Z9]);try simp (maxSteps:=9^7) +contextual only[↓ S2,S2,↓reduceIte,reduceNe,reduceEqDiff,reduceCtorEq,reduceLeDiff,reduceAdd,reduceLT,VQ,XE,hag]));(try simp +contextual (disch:=omega) only[Z2,XE,hag]);(with_reducible repeat' (first|intro h|refine And.intro (by omega) ?_ | refine exP (by omega) ?_ | apply And.intro)))
    ((try refine qI ?_);(repeat ((first|with_reducible refine qU ?_ | simp only[Z9]);try simp (maxSteps:=9^7) +contextual only[↓ S2,S2,↓reduceIte,reduceNe,reduceEqDiff,reduceCtorEq,reduceLeDiff,reduceAdd,reduceLT,VQ,XE,hag]));(try simp +contextual (disch:=omega) only[Z2,XE,hag]);(with_reducible repeat' (first|intro h|refine And.intro (by omega) ?_ | refine exP (by omega) ?_ | apply And.intro)))
    refine callS.eqT q3 (YM (by decide)) (fun _ h=>h) ?_
    ((try refine qI ?_);(repeat ((first|with_reducible refine qU ?_ | simp only[Z9]);try simp (maxSteps:=9^7) +contextual only[↓ S2,S2,↓reduceIte,reduceNe,reduceEqDiff,reduceCtorEq,reduceLeDiff,reduceAdd,reduceLT,VQ,XE,hag]));(try simp +contextual (disch:=omega) only[Z2,XE,hag]);(with_reducible repeat' (first|intro h|refine And.intro (by omega) ?_ | refine exP (by omega) ?_ | apply And.intro)))
    ((try refine qI ?_);(repeat ((first|with_reducible refine qU ?_ | simp only[Z9]);try simp (maxSteps:=9^7) +contextual only[↓ S2,S2,↓reduceIte,reduceNe,reduceEqDiff,reduceCtorEq,reduceLeDiff,reduceAdd,reduceLT,VQ,XE,hag]));(try simp +contextual (disch:=omega) only[Z2,XE,hag]);(with_reducible repeat' (first|intro h|refine And.intro (by omega) ?_ | refine exP (by omega) ?_ | apply And.intro)))
    refine callS.eqT n3 (YM (by decide)) (fun _ h=>h) ?_
    ((try refine qI ?_);(repeat ((first|with_reducible refine qU ?_ | simp only[Z9]);try simp (maxSteps:=9^7) +contextual only[↓ S2,S2,↓reduceIte,reduceNe,reduceEqDiff,reduceCtorEq,reduceLeDiff,reduceAdd,reduceLT,VQ,XE,hag]));(try simp +contextual (disch:=omega) only[Z2,XE,hag]);(with_reducible repeat' (first|intro h|refine And.intro (by omega) ?_ | refine exP (by omega) ?_ | apply And.intro)))
    ((try refine qI ?_);(repeat ((first|with_reducible refine qU ?_ | simp only[Z9]);try simp (maxSteps:=9^7) +contextual only[↓ S2,S2,↓reduceIte,reduceNe,reduceEqDiff,reduceCtorEq,reduceLeDiff,reduceAdd,reduceLT,VQ,XE,hag]));(try simp +contextual (disch:=omega) only[Z2,XE,hag]);(with_reducible repeat' (first|intro h|refine And.intro (by omega) ?_ | refine exP (by omega) ?_ | apply And.intro)))
    refine callS.eq f4 ?_
    ((try refine qI ?_);(repeat ((first|with_reducible refine qU ?_ | simp only[Z9]);try simp (maxSteps:=9^7) +contextual only[↓ S2,S2,↓reduceIte,reduceNe,reduceEqDiff,reduceCtorEq,reduceLeDiff,reduceAdd,reduceLT,VQ,]));(try simp +contextual (disch:=omega) only[Z2,]);(with_reducible repeat' (first|intro h|refine And.intro (by omega) ?_ | refine exP (by omega) ?_ | apply And.intro)))
    all_goals first|rfl|(exfalso;omega)|trace_state
   ·clear hnl q3 n3
    generalize ZO e=A at *
    ((try refine qI ?_);(repeat ((first|with_reducible refine qU ?_ | simp only[Z9]);try simp (maxSteps:=9^7) +contextual only[↓ S2,S2,↓reduceIte,reduceNe,reduceEqDiff,reduceCtorEq,reduceLeDiff,reduceAdd,reduceLT,VQ,]));(try simp +contextual (disch:=omega) only[Z2,]);(with_reducible repeat' (first|intro h|refine And.intro (by omega) ?_ | refine exP (by omega) ?_ | apply And.intro)))
    refine callS.eq n2 ?_
    ((try refine qI ?_);(repeat ((first|with_reducible refine qU ?_ | simp only[Z9]);try simp (maxSteps:=9^7) +contextual only[↓ S2,S2,↓reduceIte,reduceNe,reduceEqDiff,reduceCtorEq,reduceLeDiff,reduceAdd,reduceLT,VQ,chA]));(try simp +contextual (disch:=omega) only[Z2,chA]);(with_reducible repeat' (first|intro h|refine And.intro (by omega) ?_ | refine exP (by omega) ?_ | apply And.intro)))
    all_goals try exact oF
    refine callS.eqT q1 (YM (by decide)) (fun _ h=>h) ?_
    ((try refine qI ?_);(repeat ((first|with_reducible refine qU ?_ | simp only[Z9]);try simp (maxSteps:=9^7) +contextual only[↓ S2,S2,↓reduceIte,reduceNe,reduceEqDiff,reduceCtorEq,reduceLeDiff,reduceAdd,reduceLT,VQ,XE,hag]));(try simp +contextual (disch:=omega) only[Z2,XE,hag]);(with_reducible repeat' (first|intro h|refine And.intro (by omega) ?_ | refine exP (by omega) ?_ | apply And.intro)))
    ((try refine qI ?_);(repeat ((first|with_reducible refine qU ?_ | simp only[Z9]);try simp (maxSteps:=9^7) +contextual only[↓ S2,S2,↓reduceIte,reduceNe,reduceEqDiff,reduceCtorEq,reduceLeDiff,reduceAdd,reduceLT,VQ,XE,hag]));(try simp +contextual (disch:=omega) only[Z2,XE,hag]);(with_reducible repeat' (first|intro h|refine And.intro (by omega) ?_ | refine exP (by omega) ?_ | apply And.intro)))
    all_goals first|rfl|(exfalso;omega)|trace_state
end Go.Proofs.YtkmedfejmndmjaaGreatDoor
