/- The law FnDefined returns true whatever the input, and the input reads behind the call as before. No condition. -/
import Derived.Test.YtofcbmnplanmkaaGreatFde5
import Derived.Test.YtofcbmnplanmkaaGreatFde15
set_option maxHeartbeats 40000000
set_option linter.unusedSimpArgs false
set_option linter.unusedVariables false
namespace Go.Proofs.YtofcbmnplanmkaaGreat
open Go.Gh
open Nat (reduceEqDiff reduceLeDiff reduceAdd reduceLT)
open Int (reduceNe)
set_option maxRecDepth 20000
set_option linter.unusedSimpArgs false
set_option linter.unusedVariables false
theorem w26 (a b:List (Int×ByteArray)) (ha:a.length≤1000000000):Pu 26 [InsS a,InsS b] (· = B (decide (a=b))):=by
 refine ZW mxd i26 rfl (by simp) ?_;simp (maxSteps:=9^7) only [↓ S2,S2,Z5,↓reduceIte,reduceNe,reduceEqDiff,reduceCtorEq,reduceLeDiff,reduceAdd,reduceLT]
 by_cases hl:a.length=b.length
 ·((try refine qI ?_);(repeat ((first|with_reducible refine qU ?_ | simp only [Z6]);try simp (maxSteps:=9^7) +contextual only [↓ S2,S2,↓reduceIte,reduceNe,reduceEqDiff,reduceCtorEq,reduceLeDiff,reduceAdd,reduceLT,VQ,List.length_map,hl]));(try simp +contextual (disch:=omega) only [Z2,List.length_map,hl]);(with_reducible repeat' (first|intro h|refine And.intro (by omega) ?_ | refine exP (by omega) ?_ | apply And.intro)))
  all_goals try exact oF
  refine Zz mxd (ι:={ i:Nat // i≤a.length∧a.take i=b.take i }) (fun i=>[(0,InsS a),(1,InsS b),(5,I i.1)]) (fun _ => []) (fun i=>a.length-i.1) ⟨0,by simp⟩ (by simp [E2]) rfl ?_
  rintro ⟨i,hi,hp⟩
  dsimp only
  rcases nL i a.length with hlt|hge
  ·have hlb:i<b.length:=by omega
   have hn:a[i]=b[i]∨¬a[i].1 = b[i].1 ∨ (a[i].1 = b[i].1 ∧ ¬a[i].2 = b[i].2):=by
    by_cases h1:a[i].1 = b[i].1
    ·by_cases h2:a[i].2 = b[i].2
     ·exact .inl (Prod.ext h1 h2)
     ·exact .inr (.inr ⟨h1,h2⟩)
    ·exact .inr (.inl h1)
   rcases hn with he|he|⟨he1,he⟩
   ·((try refine qI ?_);(repeat ((first|with_reducible refine qU ?_ | simp only [Z6]);try simp (maxSteps:=9^7) +contextual only [↓ S2,S2,↓reduceIte,reduceNe,reduceEqDiff,reduceCtorEq,reduceLeDiff,reduceAdd,reduceLT,VQ,List.length_map,he,decide_true,and_self,Bool.and_self]));(try simp +contextual (disch:=omega) only [Z2,List.length_map,he,decide_true,and_self,Bool.and_self]);(with_reducible repeat' (first|intro h|refine And.intro (by omega) ?_ | refine exP (by omega) ?_ | apply And.intro)))
    all_goals try exact oF
    all_goals exact nx ⟨i+1,by omega,by rw [List.take_add_one,List.take_add_one,hp,List.getElem?_eq_getElem hlt,List.getElem?_eq_getElem hlb,he]⟩ (by dsimp only;omega) (by simp [E2]) rfl
   ·have he':=eq_false he
    have hab:(a=b)=False:=eq_false fun e=>he (by subst e;rfl)
    ((try refine qI ?_);(repeat ((first|with_reducible refine qU ?_ | simp only [Z6]);try simp (maxSteps:=9^7) +contextual only [↓ S2,S2,↓reduceIte,reduceNe,reduceEqDiff,reduceCtorEq,reduceLeDiff,reduceAdd,reduceLT,VQ,List.length_map,he',hab,decide_false,false_and,Bool.false_and]));(try simp +contextual (disch:=omega) only [Z2,List.length_map,he',hab,decide_false,false_and,Bool.false_and]);(with_reducible repeat' (first|intro h|refine And.intro (by omega) ?_ | refine exP (by omega) ?_ | apply And.intro)))
    all_goals try exact oF
   ·have he':=eq_false he
    have hab:(a=b)=False:=eq_false fun e=>he (by subst e;rfl)
    ((try refine qI ?_);(repeat ((first|with_reducible refine qU ?_ | simp only [Z6]);try simp (maxSteps:=9^7) +contextual only [↓ S2,S2,↓reduceIte,reduceNe,reduceEqDiff,reduceCtorEq,reduceLeDiff,reduceAdd,reduceLT,VQ,List.length_map,he1,he',hab,decide_false,and_false,Bool.and_false]));(try simp +contextual (disch:=omega) only [Z2,List.length_map,he1,he',hab,decide_false,and_false,Bool.and_false]);(with_reducible repeat' (first|intro h|refine And.intro (by omega) ?_ | refine exP (by omega) ?_ | apply And.intro)))
    all_goals try exact oF
  ·have hab:(a=b)=True:=eq_true (by rwa [tL (by omega),tL (by omega)] at hp)
   ((try refine qI ?_);(repeat ((first|with_reducible refine qU ?_ | simp only [Z6]);try simp (maxSteps:=9^7) +contextual only [↓ S2,S2,↓reduceIte,reduceNe,reduceEqDiff,reduceCtorEq,reduceLeDiff,reduceAdd,reduceLT,VQ,List.length_map,hab,decide_true]));(try simp +contextual (disch:=omega) only [Z2,List.length_map,hab,decide_true]);(with_reducible repeat' (first|intro h|refine And.intro (by omega) ?_ | refine exP (by omega) ?_ | apply And.intro)))
   all_goals try exact oF
 ·have hl':((a.length:Int)=b.length)=False:=eq_false (by omega)
  have hab:(a=b)=False:=eq_false fun e=>hl (by subst e;rfl)
  ((try refine qI ?_);(repeat ((first|with_reducible refine qU ?_ | simp only [Z6]);try simp (maxSteps:=9^7) +contextual only [↓ S2,S2,↓reduceIte,reduceNe,reduceEqDiff,reduceCtorEq,reduceLeDiff,reduceAdd,reduceLT,VQ,List.length_map,hl',hab,decide_false]));(try simp +contextual (disch:=omega) only [Z2,List.length_map,hl',hab,decide_false]);(with_reducible repeat' (first|intro h|refine And.intro (by omega) ?_ | refine exP (by omega) ?_ | apply And.intro)))
  all_goals try exact oF
theorem w25:∀(e:Exp),wEx e≤1048576→Pu 25 [Ex e,Ex e] (· = B true):=by
 refine Exp.indA fun e ih hw=> ?_
 obtain ⟨hl,ha⟩:=YK hw
 refine ZW mxd i25 rfl (by simp) ?_;simp (maxSteps:=9^7) only [↓ S2,S2,Z5,↓reduceIte,reduceNe,reduceEqDiff,reduceCtorEq,reduceLeDiff,reduceAdd,reduceLT]
 ((try refine qI ?_);(repeat ((first|with_reducible refine qU ?_ | simp only [Z6]);try simp (maxSteps:=9^7) +contextual only [↓ S2,S2,↓reduceIte,reduceNe,reduceEqDiff,reduceCtorEq,reduceLeDiff,reduceAdd,reduceLT,VQ,XE]));(try simp +contextual (disch:=omega) only [Z2,XE]);(with_reducible repeat' (first|intro h|refine And.intro (by omega) ?_ | refine exP (by omega) ?_ | apply And.intro)))
 refine Zz mxd (ι:={ i:Nat // i≤e.args.length }) (fun i=>[(2,.rop 7 (Ex e)),(3,.rop 7 (Ex e)),(5,I i.1)]) (fun _ => []) (fun i=>e.args.length-i.1) ⟨0,by simp⟩ (by simp [E2]) rfl ?_
 rintro ⟨i,hi⟩
 dsimp only
 rcases nL i e.args.length with hlt|hge
 ·((try refine qI ?_);(repeat ((first|with_reducible refine qU ?_ | simp only [Z6]);try simp (maxSteps:=9^7) +contextual only [↓ S2,S2,↓reduceIte,reduceNe,reduceEqDiff,reduceCtorEq,reduceLeDiff,reduceAdd,reduceLT,VQ,XE]));(try simp +contextual (disch:=omega) only [Z2,XE]);(with_reducible repeat' (first|intro h|refine And.intro (by omega) ?_ | refine exP (by omega) ?_ | apply And.intro)))
  all_goals try exact oF
  refine callS.eq (ih _ (gM hlt) (ha _ (gM hlt))) ?_
  ((try refine qI ?_);(repeat ((first|with_reducible refine qU ?_ | simp only [Z6]);try simp (maxSteps:=9^7) +contextual only [↓ S2,S2,↓reduceIte,reduceNe,reduceEqDiff,reduceCtorEq,reduceLeDiff,reduceAdd,reduceLT,VQ,]));(try simp +contextual (disch:=omega) only [Z2,]);(with_reducible repeat' (first|intro h|refine And.intro (by omega) ?_ | refine exP (by omega) ?_ | apply And.intro)))
  exact nx ⟨i+1,by omega⟩ (by simp<;>omega) (by simp [E2]) rfl
 ·((try refine qI ?_);(repeat ((first|with_reducible refine qU ?_ | simp only [Z6]);try simp (maxSteps:=9^7) +contextual only [↓ S2,S2,↓reduceIte,reduceNe,reduceEqDiff,reduceCtorEq,reduceLeDiff,reduceAdd,reduceLT,VQ,XE]));(try simp +contextual (disch:=omega) only [Z2,XE]);(with_reducible repeat' (first|intro h|refine And.intro (by omega) ?_ | refine exP (by omega) ?_ | apply And.intro)))
  all_goals try exact oF
theorem w86 (g:Gram) (t:List Nod) (hg:drG g) (ht:bentT t):Dv Tryz.prog 86 [Gr g,Tr t] (fun v=>∃x,v=Ins x):=by
 have hsm:=drG_sm hg
 obtain ⟨hl,hk,_⟩:=bentT_sm ht
 refine Dv.of fun rc H=> ?_
 refine ZW mxd i86 rfl (by simp) ?_;simp (maxSteps:=9^7) only [↓ S2,S2,Z5,↓reduceIte,reduceNe,reduceEqDiff,reduceCtorEq,reduceLeDiff,reduceAdd,reduceLT]
 (((try refine qI ?_);(repeat ((first|with_reducible refine qU ?_ | simp only [Z6]);try simp (maxSteps:=9^7) only [↓ S2,S2,Z5,↓reduceIte,reduceNe,reduceEqDiff,reduceCtorEq,reduceLeDiff,reduceAdd,reduceLT,Z9,Z8,Z7]));(try simp +contextual (disch:=omega) only [Z2,Z9,Z8,Z7]);(with_reducible repeat' (first|intro h|refine And.intro (by omega) ?_ | refine exP (by omega) ?_ | apply And.intro)));(repeat' (have h:=Z0 h;simp only [Z3,ZY,Z4,ZZ,and_true,true_and] at h;((try refine qI ?_);(repeat ((first|with_reducible refine qU ?_ | simp only [Z6]);try simp (maxSteps:=9^7) only [↓ S2,S2,Z5,↓reduceIte,reduceNe,reduceEqDiff,reduceCtorEq,reduceLeDiff,reduceAdd,reduceLT,Z9,Z8,Z7,h]));(try simp +contextual (disch:=omega) only [Z2,Z9,Z8,Z7,h]);(with_reducible repeat' (first|intro h|refine And.intro (by omega) ?_ | refine exP (by omega) ?_ | apply And.intro))))))
 refine callS.eq (q13 g t hsm hl hk) ?_
 generalize insL g t=L
 by_cases h0:L.length=0
 ·have h0':((L.length:Int)=0)=True:=eq_true (by omega)
  (((try refine qI ?_);(repeat ((first|with_reducible refine qU ?_ | simp only [Z6]);try simp (maxSteps:=9^7) only [↓ S2,S2,Z5,↓reduceIte,reduceNe,reduceEqDiff,reduceCtorEq,reduceLeDiff,reduceAdd,reduceLT,Z9,Z8,Z7,h0',decide_true,List.length_map]));(try simp +contextual (disch:=omega) only [Z2,Z9,Z8,Z7,h0',decide_true,List.length_map]);(with_reducible repeat' (first|intro h|refine And.intro (by omega) ?_ | refine exP (by omega) ?_ | apply And.intro)));(repeat' (have h:=Z0 h;simp only [Z3,ZY,Z4,ZZ,and_true,true_and] at h;((try refine qI ?_);(repeat ((first|with_reducible refine qU ?_ | simp only [Z6]);try simp (maxSteps:=9^7) only [↓ S2,S2,Z5,↓reduceIte,reduceNe,reduceEqDiff,reduceCtorEq,reduceLeDiff,reduceAdd,reduceLT,Z9,Z8,Z7,h0',decide_true,List.length_map,h]));(try simp +contextual (disch:=omega) only [Z2,Z9,Z8,Z7,h0',decide_true,List.length_map,h]);(with_reducible repeat' (first|intro h|refine And.intro (by omega) ?_ | refine exP (by omega) ?_ | apply And.intro))))))
  refine callS.dv (wz50 20 (by omega)) ZX ?_
  rintro _ ⟨k,hk,rfl⟩
  (((try refine qI ?_);(repeat ((first|with_reducible refine qU ?_ | simp only [Z6]);try simp (maxSteps:=9^7) only [↓ S2,S2,Z5,↓reduceIte,reduceNe,reduceEqDiff,reduceCtorEq,reduceLeDiff,reduceAdd,reduceLT,Z9,Z8,Z7]));(try simp +contextual (disch:=omega) only [Z2,Z9,Z8,Z7]);(with_reducible repeat' (first|intro h|refine And.intro (by omega) ?_ | refine exP (by omega) ?_ | apply And.intro)));(repeat' (have h:=Z0 h;simp only [Z3,ZY,Z4,ZZ,and_true,true_and] at h;((try refine qI ?_);(repeat ((first|with_reducible refine qU ?_ | simp only [Z6]);try simp (maxSteps:=9^7) only [↓ S2,S2,Z5,↓reduceIte,reduceNe,reduceEqDiff,reduceCtorEq,reduceLeDiff,reduceAdd,reduceLT,Z9,Z8,Z7,h]));(try simp +contextual (disch:=omega) only [Z2,Z9,Z8,Z7,h]);(with_reducible repeat' (first|intro h|refine And.intro (by omega) ?_ | refine exP (by omega) ?_ | apply And.intro))))))
  refine callS.dv (w104 _ rfl (by simp)) ZX ?_
  intro _ hg;obtain ⟨s,_,rfl⟩:=Yw rfl hg;clear hg
  (((try refine qI ?_);(repeat ((first|with_reducible refine qU ?_ | simp only [Z6]);try simp (maxSteps:=9^7) only [↓ S2,S2,Z5,↓reduceIte,reduceNe,reduceEqDiff,reduceCtorEq,reduceLeDiff,reduceAdd,reduceLT,Z9,Z8,Z7]));(try simp +contextual (disch:=omega) only [Z2,Z9,Z8,Z7]);(with_reducible repeat' (first|intro h|refine And.intro (by omega) ?_ | refine exP (by omega) ?_ | apply And.intro)));(repeat' (have h:=Z0 h;simp only [Z3,ZY,Z4,ZZ,and_true,true_and] at h;((try refine qI ?_);(repeat ((first|with_reducible refine qU ?_ | simp only [Z6]);try simp (maxSteps:=9^7) only [↓ S2,S2,Z5,↓reduceIte,reduceNe,reduceEqDiff,reduceCtorEq,reduceLeDiff,reduceAdd,reduceLT,Z9,Z8,Z7,h]));(try simp +contextual (disch:=omega) only [Z2,Z9,Z8,Z7,h]);(with_reducible repeat' (first|intro h|refine And.intro (by omega) ?_ | refine exP (by omega) ?_ | apply And.intro))))))
  exact ⟨_,[(rc,3,[.cur])],[],⟨(k,s),rfl⟩,.refl,rfl,⟨ZX,by simp [names,subH]⟩⟩
 ·have h0':((L.length:Int)=0)=False:=eq_false (by omega)
  (((try refine qI ?_);(repeat ((first|with_reducible refine qU ?_ | simp only [Z6]);try simp (maxSteps:=9^7) only [↓ S2,S2,Z5,↓reduceIte,reduceNe,reduceEqDiff,reduceCtorEq,reduceLeDiff,reduceAdd,reduceLT,Z9,Z8,Z7,h0',decide_false,List.length_map]));(try simp +contextual (disch:=omega) only [Z2,Z9,Z8,Z7,h0',decide_false,List.length_map]);(with_reducible repeat' (first|intro h|refine And.intro (by omega) ?_ | refine exP (by omega) ?_ | apply And.intro)));(repeat' (have h:=Z0 h;simp only [Z3,ZY,Z4,ZZ,and_true,true_and] at h;((try refine qI ?_);(repeat ((first|with_reducible refine qU ?_ | simp only [Z6]);try simp (maxSteps:=9^7) only [↓ S2,S2,Z5,↓reduceIte,reduceNe,reduceEqDiff,reduceCtorEq,reduceLeDiff,reduceAdd,reduceLT,Z9,Z8,Z7,h0',decide_false,List.length_map,h]));(try simp +contextual (disch:=omega) only [Z2,Z9,Z8,Z7,h0',decide_false,List.length_map,h]);(with_reducible repeat' (first|intro h|refine And.intro (by omega) ?_ | refine exP (by omega) ?_ | apply And.intro))))))
  refine callS.dv (w68 10) ZX ?_
  rintro _ ⟨b,rfl⟩
  cases b
  ·(((try refine qI ?_);(repeat ((first|with_reducible refine qU ?_ | simp only [Z6]);try simp (maxSteps:=9^7) only [↓ S2,S2,Z5,↓reduceIte,reduceNe,reduceEqDiff,reduceCtorEq,reduceLeDiff,reduceAdd,reduceLT,Z9,Z8,Z7,List.length_map]));(try simp +contextual (disch:=omega) only [Z2,Z9,Z8,Z7,List.length_map]);(with_reducible repeat' (first|intro h|refine And.intro (by omega) ?_ | refine exP (by omega) ?_ | apply And.intro)));(repeat' (have h:=Z0 h;simp only [Z3,ZY,Z4,ZZ,and_true,true_and] at h;((try refine qI ?_);(repeat ((first|with_reducible refine qU ?_ | simp only [Z6]);try simp (maxSteps:=9^7) only [↓ S2,S2,Z5,↓reduceIte,reduceNe,reduceEqDiff,reduceCtorEq,reduceLeDiff,reduceAdd,reduceLT,Z9,Z8,Z7,List.length_map,h]));(try simp +contextual (disch:=omega) only [Z2,Z9,Z8,Z7,List.length_map,h]);(with_reducible repeat' (first|intro h|refine And.intro (by omega) ?_ | refine exP (by omega) ?_ | apply And.intro))))))
   refine callS.dv (wz50 L.length (by omega)) ZX ?_
   rintro _ ⟨k,hk,rfl⟩
   have hk':k<L.length:=by omega
   (((try refine qI ?_);(repeat ((first|with_reducible refine qU ?_ | simp only [Z6]);try simp (maxSteps:=9^7) only [↓ S2,S2,Z5,↓reduceIte,reduceNe,reduceEqDiff,reduceCtorEq,reduceLeDiff,reduceAdd,reduceLT,Z9,Z8,Z7]));(try simp +contextual (disch:=omega) only [Z2,Z9,Z8,Z7]);(with_reducible repeat' (first|intro h|refine And.intro (by omega) ?_ | refine exP (by omega) ?_ | apply And.intro)));(repeat' (have h:=Z0 h;simp only [Z3,ZY,Z4,ZZ,and_true,true_and] at h;((try refine qI ?_);(repeat ((first|with_reducible refine qU ?_ | simp only [Z6]);try simp (maxSteps:=9^7) only [↓ S2,S2,Z5,↓reduceIte,reduceNe,reduceEqDiff,reduceCtorEq,reduceLeDiff,reduceAdd,reduceLT,Z9,Z8,Z7,h]));(try simp +contextual (disch:=omega) only [Z2,Z9,Z8,Z7,h]);(with_reducible repeat' (first|intro h|refine And.intro (by omega) ?_ | refine exP (by omega) ?_ | apply And.intro))))))
   exact ⟨_,[(rc,3,[.cur])],[],⟨L[k],rfl⟩,.refl,rfl,⟨ZX,by simp [names,subH]⟩⟩
  ·(((try refine qI ?_);(repeat ((first|with_reducible refine qU ?_ | simp only [Z6]);try simp (maxSteps:=9^7) only [↓ S2,S2,Z5,↓reduceIte,reduceNe,reduceEqDiff,reduceCtorEq,reduceLeDiff,reduceAdd,reduceLT,Z9,Z8,Z7]));(try simp +contextual (disch:=omega) only [Z2,Z9,Z8,Z7]);(with_reducible repeat' (first|intro h|refine And.intro (by omega) ?_ | refine exP (by omega) ?_ | apply And.intro)));(repeat' (have h:=Z0 h;simp only [Z3,ZY,Z4,ZZ,and_true,true_and] at h;((try refine qI ?_);(repeat ((first|with_reducible refine qU ?_ | simp only [Z6]);try simp (maxSteps:=9^7) only [↓ S2,S2,Z5,↓reduceIte,reduceNe,reduceEqDiff,reduceCtorEq,reduceLeDiff,reduceAdd,reduceLT,Z9,Z8,Z7,h]));(try simp +contextual (disch:=omega) only [Z2,Z9,Z8,Z7,h]);(with_reducible repeat' (first|intro h|refine And.intro (by omega) ?_ | refine exP (by omega) ?_ | apply And.intro))))))
   refine callS.dv (wz50 20 (by omega)) ZX ?_
   rintro _ ⟨k,hk,rfl⟩
   (((try refine qI ?_);(repeat ((first|with_reducible refine qU ?_ | simp only [Z6]);try simp (maxSteps:=9^7) only [↓ S2,S2,Z5,↓reduceIte,reduceNe,reduceEqDiff,reduceCtorEq,reduceLeDiff,reduceAdd,reduceLT,Z9,Z8,Z7]));(try simp +contextual (disch:=omega) only [Z2,Z9,Z8,Z7]);(with_reducible repeat' (first|intro h|refine And.intro (by omega) ?_ | refine exP (by omega) ?_ | apply And.intro)));(repeat' (have h:=Z0 h;simp only [Z3,ZY,Z4,ZZ,and_true,true_and] at h;((try refine qI ?_);(repeat ((first|with_reducible refine qU ?_ | simp only [Z6]);try simp (maxSteps:=9^7) only [↓ S2,S2,Z5,↓reduceIte,reduceNe,reduceEqDiff,reduceCtorEq,reduceLeDiff,reduceAdd,reduceLT,Z9,Z8,Z7,h]));(try simp +contextual (disch:=omega) only [Z2,Z9,Z8,Z7,h]);(with_reducible repeat' (first|intro h|refine And.intro (by omega) ?_ | refine exP (by omega) ?_ | apply And.intro))))))
   refine callS.dv (w104 _ rfl (by simp)) ZX ?_
   intro _ hg;obtain ⟨s,_,rfl⟩:=Yw rfl hg;clear hg
   (((try refine qI ?_);(repeat ((first|with_reducible refine qU ?_ | simp only [Z6]);try simp (maxSteps:=9^7) only [↓ S2,S2,Z5,↓reduceIte,reduceNe,reduceEqDiff,reduceCtorEq,reduceLeDiff,reduceAdd,reduceLT,Z9,Z8,Z7]));(try simp +contextual (disch:=omega) only [Z2,Z9,Z8,Z7]);(with_reducible repeat' (first|intro h|refine And.intro (by omega) ?_ | refine exP (by omega) ?_ | apply And.intro)));(repeat' (have h:=Z0 h;simp only [Z3,ZY,Z4,ZZ,and_true,true_and] at h;((try refine qI ?_);(repeat ((first|with_reducible refine qU ?_ | simp only [Z6]);try simp (maxSteps:=9^7) only [↓ S2,S2,Z5,↓reduceIte,reduceNe,reduceEqDiff,reduceCtorEq,reduceLeDiff,reduceAdd,reduceLT,Z9,Z8,Z7,h]));(try simp +contextual (disch:=omega) only [Z2,Z9,Z8,Z7,h]);(with_reducible repeat' (first|intro h|refine And.intro (by omega) ?_ | refine exP (by omega) ?_ | apply And.intro))))))
   exact ⟨_,[(rc,3,[.cur])],[],⟨(k,s),rfl⟩,.refl,rfl,⟨ZX,by simp [names,subH]⟩⟩
theorem w53 (bs:List UInt8) (hb:bs.length≤1048576):Pu 53 [Bs bs] (fun v=>∃g t x,drG g∧bentT t∧v = .tup [Gr g,Tr t,Ins x]):=by
 refine ZW mxd i53 rfl (by simp) ?_;simp (maxSteps:=9^7) only [↓ S2,S2,Z5,↓reduceIte,reduceNe,reduceEqDiff,reduceCtorEq,reduceLeDiff,reduceAdd,reduceLT]
 (((try refine qI ?_);(repeat ((first|with_reducible refine qU ?_ | simp only [Z6]);try simp (maxSteps:=9^7) only [↓ S2,S2,Z5,↓reduceIte,reduceNe,reduceEqDiff,reduceCtorEq,reduceLeDiff,reduceAdd,reduceLT,Z9,Z8,Z7]));(try simp +contextual (disch:=omega) only [Z2,Z9,Z8,Z7]);(with_reducible repeat' (first|intro h|refine And.intro (by omega) ?_ | refine exP (by omega) ?_ | apply And.intro)));(repeat' (have h:=Z0 h;simp only [Z3,ZY,Z4,ZZ,and_true,true_and] at h;((try refine qI ?_);(repeat ((first|with_reducible refine qU ?_ | simp only [Z6]);try simp (maxSteps:=9^7) only [↓ S2,S2,Z5,↓reduceIte,reduceNe,reduceEqDiff,reduceCtorEq,reduceLeDiff,reduceAdd,reduceLT,Z9,Z8,Z7,h]));(try simp +contextual (disch:=omega) only [Z2,Z9,Z8,Z7,h]);(with_reducible repeat' (first|intro h|refine And.intro (by omega) ?_ | refine exP (by omega) ?_ | apply And.intro))))))
 refine callS.of ((w34 bs hb).frame _) ?_
 rintro _ _ ⟨⟨g,t,hg,ht,rfl⟩,rfl⟩ _
 (((try refine qI ?_);(repeat ((first|with_reducible refine qU ?_ | simp only [Z6]);try simp (maxSteps:=9^7) only [↓ S2,S2,Z5,↓reduceIte,reduceNe,reduceEqDiff,reduceCtorEq,reduceLeDiff,reduceAdd,reduceLT,Z9,Z8,Z7]));(try simp +contextual (disch:=omega) only [Z2,Z9,Z8,Z7]);(with_reducible repeat' (first|intro h|refine And.intro (by omega) ?_ | refine exP (by omega) ?_ | apply And.intro)));(repeat' (have h:=Z0 h;simp only [Z3,ZY,Z4,ZZ,and_true,true_and] at h;((try refine qI ?_);(repeat ((first|with_reducible refine qU ?_ | simp only [Z6]);try simp (maxSteps:=9^7) only [↓ S2,S2,Z5,↓reduceIte,reduceNe,reduceEqDiff,reduceCtorEq,reduceLeDiff,reduceAdd,reduceLT,Z9,Z8,Z7,h]));(try simp +contextual (disch:=omega) only [Z2,Z9,Z8,Z7,h]);(with_reducible repeat' (first|intro h|refine And.intro (by omega) ?_ | refine exP (by omega) ?_ | apply And.intro))))))
 refine callA.of (o49 bs hb _) ?_ ?_
 ·rintro _ _ ⟨rc,rfl,rfl⟩;exact ⟨[_],rfl⟩
 rintro _ _ ⟨rc,rfl,rfl⟩ hn
 (((try refine qI ?_);(repeat ((first|with_reducible refine qU ?_ | simp only [Z6]);try simp (maxSteps:=9^7) only [↓ S2,S2,Z5,↓reduceIte,reduceNe,reduceEqDiff,reduceCtorEq,reduceLeDiff,reduceAdd,reduceLT,Z9,Z8,Z7]));(try simp +contextual (disch:=omega) only [Z2,Z9,Z8,Z7]);(with_reducible repeat' (first|intro h|refine And.intro (by omega) ?_ | refine exP (by omega) ?_ | apply And.intro)));(repeat' (have h:=Z0 h;simp only [Z3,ZY,Z4,ZZ,and_true,true_and] at h;((try refine qI ?_);(repeat ((first|with_reducible refine qU ?_ | simp only [Z6]);try simp (maxSteps:=9^7) only [↓ S2,S2,Z5,↓reduceIte,reduceNe,reduceEqDiff,reduceCtorEq,reduceLeDiff,reduceAdd,reduceLT,Z9,Z8,Z7,h]));(try simp +contextual (disch:=omega) only [Z2,Z9,Z8,Z7,h]);(with_reducible repeat' (first|intro h|refine And.intro (by omega) ?_ | refine exP (by omega) ?_ | apply And.intro))))))
 refine callA.dv (w86 g t hg ht) ZX ?_
 rintro _ ⟨x,rfl⟩
 (((try refine qI ?_);(repeat ((first|with_reducible refine qU ?_ | simp only [Z6]);try simp (maxSteps:=9^7) only [↓ S2,S2,Z5,↓reduceIte,reduceNe,reduceEqDiff,reduceCtorEq,reduceLeDiff,reduceAdd,reduceLT,Z9,Z8,Z7]));(try simp +contextual (disch:=omega) only [Z2,Z9,Z8,Z7]);(with_reducible repeat' (first|intro h|refine And.intro (by omega) ?_ | refine exP (by omega) ?_ | apply And.intro)));(repeat' (have h:=Z0 h;simp only [Z3,ZY,Z4,ZZ,and_true,true_and] at h;((try refine qI ?_);(repeat ((first|with_reducible refine qU ?_ | simp only [Z6]);try simp (maxSteps:=9^7) only [↓ S2,S2,Z5,↓reduceIte,reduceNe,reduceEqDiff,reduceCtorEq,reduceLeDiff,reduceAdd,reduceLT,Z9,Z8,Z7,h]));(try simp +contextual (disch:=omega) only [Z2,Z9,Z8,Z7,h]);(with_reducible repeat' (first|intro h|refine And.intro (by omega) ?_ | refine exP (by omega) ?_ | apply And.intro))))))
 exact ⟨g,t,x,hg,ht,rfl⟩
theorem w22 (bs:List UInt8) (hb:bs.length≤1048576):Pu 22 [Bs bs] (fun v=>∃g t x,drG g∧bentT t∧v = .tup [Gr g,Tr t,Ins x]):=by
 refine ZW mxd i22 rfl (by simp) ?_;simp (maxSteps:=9^7) only [↓ S2,S2,Z5,↓reduceIte,reduceNe,reduceEqDiff,reduceCtorEq,reduceLeDiff,reduceAdd,reduceLT]
 (((try refine qI ?_);(repeat ((first|with_reducible refine qU ?_ | simp only [Z6]);try simp (maxSteps:=9^7) only [↓ S2,S2,Z5,↓reduceIte,reduceNe,reduceEqDiff,reduceCtorEq,reduceLeDiff,reduceAdd,reduceLT,Z9,Z8,Z7]));(try simp +contextual (disch:=omega) only [Z2,Z9,Z8,Z7]);(with_reducible repeat' (first|intro h|refine And.intro (by omega) ?_ | refine exP (by omega) ?_ | apply And.intro)));(repeat' (have h:=Z0 h;simp only [Z3,ZY,Z4,ZZ,and_true,true_and] at h;((try refine qI ?_);(repeat ((first|with_reducible refine qU ?_ | simp only [Z6]);try simp (maxSteps:=9^7) only [↓ S2,S2,Z5,↓reduceIte,reduceNe,reduceEqDiff,reduceCtorEq,reduceLeDiff,reduceAdd,reduceLT,Z9,Z8,Z7,h]));(try simp +contextual (disch:=omega) only [Z2,Z9,Z8,Z7,h]);(with_reducible repeat' (first|intro h|refine And.intro (by omega) ?_ | refine exP (by omega) ?_ | apply And.intro))))))
 refine callS.of ((w53 bs hb).frame _) ?_
 rintro _ _ ⟨⟨g,t,x,hg,ht,rfl⟩,rfl⟩ _
 (((try refine qI ?_);(repeat ((first|with_reducible refine qU ?_ | simp only [Z6]);try simp (maxSteps:=9^7) only [↓ S2,S2,Z5,↓reduceIte,reduceNe,reduceEqDiff,reduceCtorEq,reduceLeDiff,reduceAdd,reduceLT,Z9,Z8,Z7]));(try simp +contextual (disch:=omega) only [Z2,Z9,Z8,Z7]);(with_reducible repeat' (first|intro h|refine And.intro (by omega) ?_ | refine exP (by omega) ?_ | apply And.intro)));(repeat' (have h:=Z0 h;simp only [Z3,ZY,Z4,ZZ,and_true,true_and] at h;((try refine qI ?_);(repeat ((first|with_reducible refine qU ?_ | simp only [Z6]);try simp (maxSteps:=9^7) only [↓ S2,S2,Z5,↓reduceIte,reduceNe,reduceEqDiff,reduceCtorEq,reduceLeDiff,reduceAdd,reduceLT,Z9,Z8,Z7,h]));(try simp +contextual (disch:=omega) only [Z2,Z9,Z8,Z7,h]);(with_reducible repeat' (first|intro h|refine And.intro (by omega) ?_ | refine exP (by omega) ?_ | apply And.intro))))))
 exact ⟨g,t,x,hg,ht,rfl⟩
end Go.Proofs.YtofcbmnplanmkaaGreat
