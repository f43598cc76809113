/- The law FnDefined returns true whatever the input, and the input reads behind the call as before. No condition. -/
import Derived.Test.YtofcbmnplanmkaaGreatFde8
import Derived.Test.YtofcbmnplanmkaaGreatFde9
set_option maxHeartbeats 40000000
set_option linter.unusedSimpArgs false
set_option linter.unusedVariables false
namespace Go.Proofs.YtofcbmnplanmkaaGreat
open Go.Gh
open Nat (reduceEqDiff reduceLeDiff reduceAdd reduceLT)
open Int (reduceNe)
set_option maxRecDepth 20000
set_option linter.unusedSimpArgs false
set_option linter.unusedVariables false
theorem w182 (e:Exp) (hl:e.args.length≤1048576) (ho:okE e):Pu 182 [Ex e] (· = B (nodeV e)):=by
 obtain ⟨hs,hm,_⟩:=okE_eq.1 ho
 have hk:e.kind=1∨e.kind=2∨e.kind=3∨e.kind=4∨e.kind=5∨e.kind=6∨e.kind=7∨e.kind=8∨(¬(1≤e.kind∧e.kind≤8)):=by omega
 rcases hk with hk|hk|hk|hk|hk|hk|hk|hk|hk
 all_goals
  refine ZW mxd i182 rfl (by simp) ?_;refine X0 ?_
  (repeat' (first|(with_reducible refine callS.eq (w51 _ _ _) ?_)|(with_reducible refine callS.eq (w190 e hl) ?_)|(with_reducible refine callS.eq (w110 _ _) ?_)|(with_reducible refine callS.eq (w176 _ hs) ?_)|(with_reducible refine callS.eq (w176 _ hm) ?_)|simp (maxSteps:=9^7) only [↓ S2,S2,Z5,↓reduceIte,reduceNe,reduceEqDiff,reduceCtorEq,reduceLeDiff,reduceAdd,reduceLT,XE,hk]|simp only [Z6]|simp +contextual (disch:=omega) only [Z2]|with_reducible first|intro h|refine And.intro (by omega) ?_ | refine exP (by omega) ?_ | apply And.intro))
  all_goals try exact oF
  all_goals first
   | (simp_all [nodeV];done)
   | (simp_all [nodeV];intros;omega)
   | (congr 2;rw [Bool.eq_iff_iff];simp [nodeV,hk, *];done)
theorem w164:∀e:Exp,okE e→wEx e≤1048576→Pu 164 [Ex e] (· = B (allE nodeV e)):=by
 refine Exp.indA fun e ih ho hw=> ?_
 obtain ⟨hl,ha⟩:=YK hw
 obtain ⟨_,_,hoa⟩:=okE_eq.1 ho
 refine ZW mxd i164 rfl (by simp) ?_;refine X0 ?_
 simp (maxSteps:=9^7) only [↓ S2,S2,Z5,↓reduceIte,reduceNe,reduceEqDiff,reduceCtorEq,reduceLeDiff,reduceAdd,reduceLT,XE]
 refine Zz mxd (ι:={ i:Nat // i≤e.args.length∧∀a∈e.args.take i,allE nodeV a=true }) (fun i=>[(1,.rop 7 (Ex e)),(3,I i.1)]) (fun _ => []) (fun i=>e.args.length-i.1) ⟨0,by simp⟩ (by simp [E2]) rfl ?_
 rintro ⟨i,hi,hn⟩
 rcases nL i e.args.length with hlt|hge
 ·(repeat' (first|(with_reducible refine callS.eq (ih _ (gM hlt) (hoa _ (gM hlt)) (ha _ (gM hlt))) ?_)|simp (maxSteps:=9^7) only [↓ S2,S2,Z5,↓reduceIte,reduceNe,reduceEqDiff,reduceCtorEq,reduceLeDiff,reduceAdd,reduceLT,XE]|simp only [Z6]|simp +contextual (disch:=omega) only [Z2]|with_reducible first|intro h|refine And.intro (by omega) ?_ | refine exP (by omega) ?_ | apply And.intro))
  all_goals try exact oF
  ·exact nx ⟨i+1,by omega,all_take hlt (by assumption) hn⟩ (by simp;omega) (by simp [E2]) rfl
  ·rw [allE_no hlt (by assumption)]
 ·have:i=e.args.length:=by omega
  subst this
  rw [tL (Nat.le_refl _)] at hn
  rw [allE_yes hn]
  (repeat' (first|(with_reducible refine callS.eq (w182 e hl ho) ?_)|simp (maxSteps:=9^7) only [↓ S2,S2,Z5,↓reduceIte,reduceNe,reduceEqDiff,reduceCtorEq,reduceLeDiff,reduceAdd,reduceLT,XE]|simp only [Z6]|simp +contextual (disch:=omega) only [Z2]|with_reducible first|intro h|refine And.intro (by omega) ?_ | refine exP (by omega) ?_ | apply And.intro))
theorem w127 (e:Exp) (ho:okE e) (hw:wEx e≤1048576):Pu 127 [Ex e] (· = B (validE e)):=by
 have hc:=cntE_le e
 have hd:=dpE_le e
 refine ZW mxd i127 rfl (by simp) ?_;refine X0 ?_
 (repeat' (first|(with_reducible refine callS.eq (w162 e hw _ (by omega) (by omega)) ?_)|(with_reducible refine callS.eq (w163 e hw) ?_)|(with_reducible refine callS.eq (w164 e ho hw) ?_)|simp (maxSteps:=9^7) only [↓ S2,S2,Z5,↓reduceIte,reduceNe,reduceEqDiff,reduceCtorEq,reduceLeDiff,reduceAdd,reduceLT,XE]|simp only [Z6]|simp +contextual (disch:=omega) only [Z2]|with_reducible first|intro h|refine And.intro (by omega) ?_ | refine exP (by omega) ?_ | apply And.intro))
 all_goals (simp only [validE])
 all_goals first
  | (rw [decide_eq_true (show cntE e≤24 by omega),decide_eq_true (show dpE e≤6 by omega)];rfl)
  | (rw [decide_eq_false (show ¬cntE e≤24 by omega)];rfl)
  | (rw [decide_eq_false (show ¬dpE e≤6 by omega),Bool.and_false];rfl)
theorem w165 (n k:Int):Pu 165 [I n,I k] (· = ExN (.mk 1 n 0 k noS noS [])):=by
 refine ZW mxd i165 rfl (by simp) ?_;simp (maxSteps:=9^7) only [↓ S2,S2,Z5,↓reduceIte,reduceNe,reduceEqDiff,reduceCtorEq,reduceLeDiff,reduceAdd,reduceLT]
 ((try refine qI ?_);(repeat ((first|with_reducible refine qU ?_ | simp only [Z6]);try simp (maxSteps:=9^7) +contextual only [↓ S2,S2,↓reduceIte,reduceNe,reduceEqDiff,reduceCtorEq,reduceLeDiff,reduceAdd,reduceLT,VQ,]));(try simp +contextual (disch:=omega) only [Z2,]);(with_reducible repeat' (first|intro h|refine And.intro (by omega) ?_ | refine exP (by omega) ?_ | apply And.intro)))
 rfl
theorem o161 (op:Int) (a b:Exp) (H:GH):Gc 161 [I op,Ex a,Ex b] H (fun g H'=>∃H1,(∃r,g=ExR (.mk 4 op 0 0 noS noS [a,b]) r∧H1=[(r,7,[Ex a,Ex b])])∧H'=H1++H):=by
 refine ZW mxd i161 rfl (by simp) ?_;simp (maxSteps:=9^7) only [↓ S2,S2,Z5,↓reduceIte,reduceNe,reduceEqDiff,reduceCtorEq,reduceLeDiff,reduceAdd,reduceLT]
 ((try refine qI ?_);(repeat ((first|with_reducible refine qU ?_ | simp only [Z6]);try simp (maxSteps:=9^7) +contextual only [↓ S2,S2,↓reduceIte,reduceNe,reduceEqDiff,reduceCtorEq,reduceLeDiff,reduceAdd,reduceLT,VQ,XE]));(try simp +contextual (disch:=omega) only [Z2,XE]);(with_reducible repeat' (first|intro h|refine And.intro (by omega) ?_ | refine exP (by omega) ?_ | apply And.intro)))
 exact ⟨_,⟨_,rfl,rfl⟩,rfl⟩
theorem w128 (kind:Int) (l:List Oc) (hl:∀o∈l,shT o.2):Dv Tryz.prog 128 [I kind,OcS l] (fun g=>∃e,e.args=[]∧shD 0 e∧g=ExN e):=by
 refine Dv.of0 fun rc H=> ?_
 refine ZW mxd i128 rfl (by simp) ?_;simp (maxSteps:=9^7) only [↓ S2,S2,Z5,↓reduceIte,reduceNe,reduceEqDiff,reduceCtorEq,reduceLeDiff,reduceAdd,reduceLT]
 ((try refine qI ?_);(repeat ((first|with_reducible refine qU ?_ | simp only [Z6]);try simp (maxSteps:=9^7) +contextual only [↓ S2,S2,↓reduceIte,reduceNe,reduceEqDiff,reduceCtorEq,reduceLeDiff,reduceAdd,reduceLT,VQ,]));(try simp +contextual (disch:=omega) only [Z2,]);(with_reducible repeat' (first|intro h|refine And.intro (by omega) ?_ | refine exP (by omega) ?_ | apply And.intro)))
 (repeat' ((first|(refine callS.dv (wz50 _ (by omega)) (by first|exact ZX|(simp only [Z9, *,if_true,if_false];done)) ?_;rintro _ ⟨_,_,rfl⟩)|(refine callS.dv (w50 _) (by first|exact ZX|(simp only [Z9, *,if_true,if_false];done)) ?_;rintro _ ⟨_,_,_,_,rfl⟩)|(refine callS.dv (w68 _) (by first|exact ZX|(simp only [Z9, *,if_true,if_false];done)) ?_;rintro _ ⟨_,rfl⟩)|(refine callS.dv (w104 _ rfl (by simp)) (by first|exact ZX|(simp only [Z9, *,if_true,if_false];done)) ?_;intro _ hg;obtain ⟨_,_,rfl⟩:=Yw rfl hg;clear hg)|(refine callS.dv (w108 _ rfl (by simp)) (by first|exact ZX|(simp only [Z9, *,if_true,if_false];done)) ?_;intro _ hg;obtain ⟨_,_,rfl⟩:=YI (lo:= -9223372036854775808) (hi:=9223372036854775807) rfl hg;clear hg)|(with_reducible refine callS.eq (w165 _ _) ?_)|(refine callA.dv (wz50 _ (by omega)) (by first|exact ZX|(simp only [Z9, *,if_true,if_false];done)) ?_;rintro _ ⟨_,_,rfl⟩)|(refine callA.dv (w50 _) (by first|exact ZX|(simp only [Z9, *,if_true,if_false];done)) ?_;rintro _ ⟨_,_,_,_,rfl⟩)|(refine callA.dv (w68 _) (by first|exact ZX|(simp only [Z9, *,if_true,if_false];done)) ?_;rintro _ ⟨_,rfl⟩)|(refine callA.dv (w104 _ rfl (by simp)) (by first|exact ZX|(simp only [Z9, *,if_true,if_false];done)) ?_;intro _ hg;obtain ⟨_,_,rfl⟩:=Yw rfl hg;clear hg)|(refine callA.dv (w108 _ rfl (by simp)) (by first|exact ZX|(simp only [Z9, *,if_true,if_false];done)) ?_;intro _ hg;obtain ⟨_,_,rfl⟩:=YI (lo:= -9223372036854775808) (hi:=9223372036854775807) rfl hg;clear hg)|(with_reducible refine callA.eq (w165 _ _) ?_));((try refine qI ?_);(repeat ((first|with_reducible refine qU ?_ | simp only [Z6]);try simp (maxSteps:=9^7) +contextual only [↓ S2,S2,↓reduceIte,reduceNe,reduceEqDiff,reduceCtorEq,reduceLeDiff,reduceAdd,reduceLT,VQ,]));(try simp +contextual (disch:=omega) only [Z2,]);(with_reducible repeat' (first|intro h|refine And.intro (by omega) ?_ | refine exP (by omega) ?_ | apply And.intro)))))
 all_goals first
  | exact ⟨.mk _ _ _ _ noS noS [],rfl,shD_leaf (by decide) (by decide),rfl⟩
  | exact ⟨.mk _ _ _ _ noS _ [],rfl,shD_leaf (by decide) (hl _ (gM _)),rfl⟩
  | exact u64_nn _
end Go.Proofs.YtofcbmnplanmkaaGreat
