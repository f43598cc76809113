/- The law FnInstances returns true whatever the input, and the input reads behind the call as before. No condition. -/
import Derived.Test.YtofcbmnplanmkaaDoorFin5
import Derived.Test.YtofcbmnplanmkaaDoorFin6
set_option maxHeartbeats 40000000
set_option linter.unusedSimpArgs false
set_option linter.unusedVariables false
namespace Go.Proofs.YtofcbmnplanmkaaDoor
open Go.Gh
open Nat (reduceEqDiff reduceLeDiff reduceAdd reduceLT)
open Int (reduceNe)
set_option maxRecDepth 20000
set_option linter.unusedSimpArgs false
set_option linter.unusedVariables false
theorem w84 (e:Exp) (hl:e.args.length≤1048576) (ho:okE e):Pu 84 [Ex e] (· = B (nodeV e)):=by
 obtain ⟨hs,hm,_⟩:=okE_eq.1 ho
 have hk:e.kind=1∨e.kind=2∨e.kind=3∨e.kind=4∨e.kind=5∨e.kind=6∨e.kind=7∨e.kind=8∨(¬(1≤e.kind∧e.kind≤8)):=by omega
 rcases hk with hk|hk|hk|hk|hk|hk|hk|hk|hk
 all_goals
  refine ZR mxd i84 rfl (by simp) ?_;refine X0 ?_
  (repeat' (first|(with_reducible refine callS.eq (w19 _ _ _) ?_)|(with_reducible refine callS.eq (w94 e hl) ?_)|(with_reducible refine callS.eq (w50 _ _) ?_)|(with_reducible refine callS.eq (w95 _ hs) ?_)|(with_reducible refine callS.eq (w95 _ hm) ?_)|simp (maxSteps:=9^7) only [↓ S2,S2,Z5,↓reduceIte,reduceNe,reduceEqDiff,reduceCtorEq,reduceLeDiff,reduceAdd,reduceLT,XE,hk]|simp only [Z6]|simp +contextual (disch:=omega) only [Z2]|with_reducible first|intro h|refine And.intro (by omega) ?_ | refine exP (by omega) ?_ | apply And.intro))
  all_goals try exact oF
  all_goals first
   | (simp_all [nodeV];done)
   | (simp_all [nodeV];intros;omega)
   | (congr 2;rw [Bool.eq_iff_iff];simp [nodeV,hk, *];done)
theorem w73:∀e:Exp,okE e→wEx e≤1048576→Pu 73 [Ex e] (· = B (allE nodeV e)):=by
 refine Exp.indA fun e ih ho hw=> ?_
 obtain ⟨hl,ha⟩:=args_small hw
 obtain ⟨_,_,hoa⟩:=okE_eq.1 ho
 refine ZR mxd i73 rfl (by simp) ?_;refine X0 ?_
 simp (maxSteps:=9^7) only [↓ S2,S2,Z5,↓reduceIte,reduceNe,reduceEqDiff,reduceCtorEq,reduceLeDiff,reduceAdd,reduceLT,XE]
 refine Zl mxd (ι:={ i:Nat // i≤e.args.length∧∀a∈e.args.take i,allE nodeV a=true }) (fun i=>[(1,.rop 7 (Ex e)),(3,I i.1)]) (fun _ => []) (fun i=>e.args.length-i.1) ⟨0,by simp⟩ (by simp [E2]) rfl ?_
 rintro ⟨i,hi,hn⟩
 rcases nL i e.args.length with hlt|hge
 ·(repeat' (first|(with_reducible refine callS.eq (ih _ (gM hlt) (hoa _ (gM hlt)) (ha _ (gM hlt))) ?_)|simp (maxSteps:=9^7) only [↓ S2,S2,Z5,↓reduceIte,reduceNe,reduceEqDiff,reduceCtorEq,reduceLeDiff,reduceAdd,reduceLT,XE]|simp only [Z6]|simp +contextual (disch:=omega) only [Z2]|with_reducible first|intro h|refine And.intro (by omega) ?_ | refine exP (by omega) ?_ | apply And.intro))
  all_goals try exact oF
  ·exact nx ⟨i+1,by omega,all_take hlt (by assumption) hn⟩ (by simp;omega) (by simp [E2]) rfl
  ·rw [allE_no hlt (by assumption)]
 ·have:i=e.args.length:=by omega
  subst this
  rw [tL (Nat.le_refl _)] at hn
  rw [allE_yes hn]
  (repeat' (first|(with_reducible refine callS.eq (w84 e hl ho) ?_)|simp (maxSteps:=9^7) only [↓ S2,S2,Z5,↓reduceIte,reduceNe,reduceEqDiff,reduceCtorEq,reduceLeDiff,reduceAdd,reduceLT,XE]|simp only [Z6]|simp +contextual (disch:=omega) only [Z2]|with_reducible first|intro h|refine And.intro (by omega) ?_ | refine exP (by omega) ?_ | apply And.intro))
theorem w59 (e:Exp) (ho:okE e) (hw:wEx e≤1048576):Pu 59 [Ex e] (· = B (validE e)):=by
 have hc:=cntE_le e
 have hd:=dpE_le e
 refine ZR mxd i59 rfl (by simp) ?_;refine X0 ?_
 (repeat' (first|(with_reducible refine callS.eq (w71 e hw _ (by omega) (by omega)) ?_)|(with_reducible refine callS.eq (w72 e hw) ?_)|(with_reducible refine callS.eq (w73 e ho hw) ?_)|simp (maxSteps:=9^7) only [↓ S2,S2,Z5,↓reduceIte,reduceNe,reduceEqDiff,reduceCtorEq,reduceLeDiff,reduceAdd,reduceLT,XE]|simp only [Z6]|simp +contextual (disch:=omega) only [Z2]|with_reducible first|intro h|refine And.intro (by omega) ?_ | refine exP (by omega) ?_ | apply And.intro))
 all_goals (simp only [validE])
 all_goals first
  | (rw [decide_eq_true (show cntE e≤24 by omega),decide_eq_true (show dpE e≤6 by omega)];rfl)
  | (rw [decide_eq_false (show ¬cntE e≤24 by omega)];rfl)
  | (rw [decide_eq_false (show ¬dpE e≤6 by omega),Bool.and_false];rfl)
theorem w74 (n k:Int):Pu 74 [I n,I k] (· = ExN (.mk 1 n 0 k noS noS [])):=by
 refine ZR mxd i74 rfl (by simp) ?_;simp (maxSteps:=9^7) only [↓ S2,S2,Z5,↓reduceIte,reduceNe,reduceEqDiff,reduceCtorEq,reduceLeDiff,reduceAdd,reduceLT]
 ((try refine qI ?_);(repeat ((first|with_reducible refine qU ?_ | simp only [Z6]);try simp (maxSteps:=9^7) +contextual only [↓ S2,S2,↓reduceIte,reduceNe,reduceEqDiff,reduceCtorEq,reduceLeDiff,reduceAdd,reduceLT,VQ,]));(try simp +contextual (disch:=omega) only [Z2,]);(with_reducible repeat' (first|intro h|refine And.intro (by omega) ?_ | refine exP (by omega) ?_ | apply And.intro)))
 rfl
theorem o70 (op:Int) (a b:Exp) (H:GH):Gc 70 [I op,Ex a,Ex b] H (fun g H'=>∃H1,(∃r,g=ExR (.mk 4 op 0 0 noS noS [a,b]) r∧H1=[(r,7,[Ex a,Ex b])])∧H'=H1++H):=by
 refine ZR mxd i70 rfl (by simp) ?_;simp (maxSteps:=9^7) only [↓ S2,S2,Z5,↓reduceIte,reduceNe,reduceEqDiff,reduceCtorEq,reduceLeDiff,reduceAdd,reduceLT]
 ((try refine qI ?_);(repeat ((first|with_reducible refine qU ?_ | simp only [Z6]);try simp (maxSteps:=9^7) +contextual only [↓ S2,S2,↓reduceIte,reduceNe,reduceEqDiff,reduceCtorEq,reduceLeDiff,reduceAdd,reduceLT,VQ,XE]));(try simp +contextual (disch:=omega) only [Z2,XE]);(with_reducible repeat' (first|intro h|refine And.intro (by omega) ?_ | refine exP (by omega) ?_ | apply And.intro)))
 exact ⟨_,⟨_,rfl,rfl⟩,rfl⟩
theorem w60 (kind:Int) (l:List Oc) (hl:∀o∈l,shT o.2):Dv Tryd.prog 60 [I kind,OcS l] (fun g=>∃e,e.args=[]∧shD 0 e∧g=ExN e):=by
 refine Dv.of0 fun rc H=> ?_
 refine ZR mxd i60 rfl (by simp) ?_;simp (maxSteps:=9^7) only [↓ S2,S2,Z5,↓reduceIte,reduceNe,reduceEqDiff,reduceCtorEq,reduceLeDiff,reduceAdd,reduceLT]
 ((try refine qI ?_);(repeat ((first|with_reducible refine qU ?_ | simp only [Z6]);try simp (maxSteps:=9^7) +contextual only [↓ S2,S2,↓reduceIte,reduceNe,reduceEqDiff,reduceCtorEq,reduceLeDiff,reduceAdd,reduceLT,VQ,]));(try simp +contextual (disch:=omega) only [Z2,]);(with_reducible repeat' (first|intro h|refine And.intro (by omega) ?_ | refine exP (by omega) ?_ | apply And.intro)))
 (repeat' ((first|(refine callS.dv (wz41 _ (by omega)) (by first|exact ZW|(simp only [Z9, *,if_true,if_false];done)) ?_;rintro _ ⟨_,_,rfl⟩)|(refine callS.dv (w41 _) (by first|exact ZW|(simp only [Z9, *,if_true,if_false];done)) ?_;rintro _ ⟨_,_,_,_,rfl⟩)|(refine callS.dv (w30 _) (by first|exact ZW|(simp only [Z9, *,if_true,if_false];done)) ?_;rintro _ ⟨_,rfl⟩)|(refine callS.dv (w43 _ rfl (by simp)) (by first|exact ZW|(simp only [Z9, *,if_true,if_false];done)) ?_;intro _ hg;obtain ⟨_,_,rfl⟩:=ltT_mem rfl hg;clear hg)|(refine callS.dv (w47 _ rfl (by simp)) (by first|exact ZW|(simp only [Z9, *,if_true,if_false];done)) ?_;intro _ hg;obtain ⟨_,_,rfl⟩:=YQ (lo:= -9223372036854775808) (hi:=9223372036854775807) rfl hg;clear hg)|(with_reducible refine callS.eq (w74 _ _) ?_)|(refine callA.dv (wz41 _ (by omega)) (by first|exact ZW|(simp only [Z9, *,if_true,if_false];done)) ?_;rintro _ ⟨_,_,rfl⟩)|(refine callA.dv (w41 _) (by first|exact ZW|(simp only [Z9, *,if_true,if_false];done)) ?_;rintro _ ⟨_,_,_,_,rfl⟩)|(refine callA.dv (w30 _) (by first|exact ZW|(simp only [Z9, *,if_true,if_false];done)) ?_;rintro _ ⟨_,rfl⟩)|(refine callA.dv (w43 _ rfl (by simp)) (by first|exact ZW|(simp only [Z9, *,if_true,if_false];done)) ?_;intro _ hg;obtain ⟨_,_,rfl⟩:=ltT_mem rfl hg;clear hg)|(refine callA.dv (w47 _ rfl (by simp)) (by first|exact ZW|(simp only [Z9, *,if_true,if_false];done)) ?_;intro _ hg;obtain ⟨_,_,rfl⟩:=YQ (lo:= -9223372036854775808) (hi:=9223372036854775807) rfl hg;clear hg)|(with_reducible refine callA.eq (w74 _ _) ?_));((try refine qI ?_);(repeat ((first|with_reducible refine qU ?_ | simp only [Z6]);try simp (maxSteps:=9^7) +contextual only [↓ S2,S2,↓reduceIte,reduceNe,reduceEqDiff,reduceCtorEq,reduceLeDiff,reduceAdd,reduceLT,VQ,]));(try simp +contextual (disch:=omega) only [Z2,]);(with_reducible repeat' (first|intro h|refine And.intro (by omega) ?_ | refine exP (by omega) ?_ | apply And.intro)))))
 all_goals first
  | exact ⟨.mk _ _ _ _ noS noS [],rfl,shD_leaf (by decide) (by decide),rfl⟩
  | exact ⟨.mk _ _ _ _ noS _ [],rfl,shD_leaf (by decide) (hl _ (gM _)),rfl⟩
  | exact u64_nn _
end Go.Proofs.YtofcbmnplanmkaaDoor
