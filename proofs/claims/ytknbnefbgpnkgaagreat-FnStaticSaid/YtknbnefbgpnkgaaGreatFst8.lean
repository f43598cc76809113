/- The laws FnStatic and FnStaticTypes return true whatever the input, and the input reads behind the call as before. No condition. -/
import Derived.Test.YtknbnefbgpnkgaaGreatFst6
import Derived.Test.YtknbnefbgpnkgaaGreatFst7
set_option maxHeartbeats 40000000
set_option maxRecDepth 20000
set_option linter.unusedSimpArgs false
set_option linter.unusedVariables false
namespace Go.Proofs.YtknbnefbgpnkgaaGreat
open Go.Gh
open Nat (reduceEqDiff reduceLeDiff reduceAdd reduceLT)
open Int (reduceNe)
theorem w233 (e:Exp) (hl:e.args.length≤1048576) (ho:okE e):Pu 233 [Ex e] (· = B (Yh e)):=by
 obtain ⟨hs,hm,_⟩:=okE_eq.1 ho
 have hk:e.kind=1∨e.kind=2∨e.kind=3∨e.kind=4∨e.kind=5∨e.kind=6∨e.kind=7∨e.kind=8∨(¬(1≤e.kind∧e.kind≤8)):=by omega
 rcases hk with hk|hk|hk|hk|hk|hk|hk|hk|hk
 all_goals
  refine Z5 mxd i233 rfl (by simp) ?_;refine X0 ?_
  (repeat' (first|(with_reducible refine callS.eq (w64 _ _ _) ?_)|(with_reducible refine callS.eq (w269 e hl) ?_)|(with_reducible refine callS.eq (w33 _ _) ?_)|(with_reducible refine callS.eq (w270 _ hs) ?_)|(with_reducible refine callS.eq (w270 _ hm) ?_)|simp (maxSteps:=9^7) only[↓ S2,S2,ZH,↓reduceIte,reduceNe,reduceEqDiff,reduceCtorEq,reduceLeDiff,reduceAdd,reduceLT,XE,hk]|simp only[ZP]|simp +contextual (disch:=omega) only[Z2]|with_reducible first|intro h|refine jO oT ?_ | refine exP oT ?_ | apply jO))
  all_goals try exact oF
  all_goals first
   | (simp_all [Yh];done)
   | (simp_all [Yh];intros;omega)
   | (congr 2;rw[Bool.eq_iff_iff];simp[Yh,hk, *];done)
theorem w196:∀e:Exp,okE e→wEx e≤1048576→Pu 196 [Ex e] (· = B (allE Yh e)):=by
 refine Exp.indA fun e ih ho hw=> ?_
 obtain ⟨hl,ha⟩:=YS hw
 obtain ⟨_,_,hoa⟩:=okE_eq.1 ho
 refine Z5 mxd i196 rfl (by simp) ?_;refine X0 ?_
 simp (maxSteps:=9^7) only[↓ S2,S2,ZH,↓reduceIte,reduceNe,reduceEqDiff,reduceCtorEq,reduceLeDiff,reduceAdd,reduceLT,XE]
 refine ZL mxd (ι:={ i:Nat // i≤e.args.length∧∀a∈e.args.take i,allE Yh a=true }) (fun i=>[(1,.rop 7 (Ex e)),(3,I i.1)]) (fun _ => []) (fun i=>e.args.length-i.1) ⟨0,by simp⟩ (by simp[E2]) rfl ?_
 rintro ⟨i,hi,hn⟩
 rcases nL i e.args.length with hlt|hge
 ·(repeat' (first|(with_reducible refine callS.eq (ih _ (gM hlt) (hoa _ (gM hlt)) (ha _ (gM hlt))) ?_)|simp (maxSteps:=9^7) only[↓ S2,S2,ZH,↓reduceIte,reduceNe,reduceEqDiff,reduceCtorEq,reduceLeDiff,reduceAdd,reduceLT,XE]|simp only[ZP]|simp +contextual (disch:=omega) only[Z2]|with_reducible first|intro h|refine jO oT ?_ | refine exP oT ?_ | apply jO))
  all_goals try exact oF
  ·exact nx ⟨i+1,oT,all_take hlt (by assumption) hn⟩ (by simp;omega) (by simp[E2]) rfl
  ·rw[allE_no hlt (by assumption)]
 ·have:i=e.args.length:=by omega
  subst this
  rw[tL (Nat.le_refl _)] at hn
  rw[allE_yes hn]
  (repeat' (first|(with_reducible refine callS.eq (w233 e hl ho) ?_)|simp (maxSteps:=9^7) only[↓ S2,S2,ZH,↓reduceIte,reduceNe,reduceEqDiff,reduceCtorEq,reduceLeDiff,reduceAdd,reduceLT,XE]|simp only[ZP]|simp +contextual (disch:=omega) only[Z2]|with_reducible first|intro h|refine jO oT ?_ | refine exP oT ?_ | apply jO))
theorem w158 (e:Exp) (ho:okE e) (hw:wEx e≤1048576):Pu 158 [Ex e] (· = B (X7 e)):=by
 have hc:=cntE_le e
 have hd:=dpE_le e
 refine Z5 mxd i158 rfl (by simp) ?_;refine X0 ?_
 (repeat' (first|(with_reducible refine callS.eq (w194 e hw _ oT oT) ?_)|(with_reducible refine callS.eq (w195 e hw) ?_)|(with_reducible refine callS.eq (w196 e ho hw) ?_)|simp (maxSteps:=9^7) only[↓ S2,S2,ZH,↓reduceIte,reduceNe,reduceEqDiff,reduceCtorEq,reduceLeDiff,reduceAdd,reduceLT,XE]|simp only[ZP]|simp +contextual (disch:=omega) only[Z2]|with_reducible first|intro h|refine jO oT ?_ | refine exP oT ?_ | apply jO))
 all_goals (simp only[X7])
 all_goals first
  | (rw[decide_eq_true (show cntE e≤24 by omega),decide_eq_true (show dpE e≤6 by omega)];rfl)
  | (rw[decide_eq_false (show ¬cntE e≤24 by omega)];rfl)
  | (rw[decide_eq_false (show ¬dpE e≤6 by omega),Bool.and_false];rfl)
end Go.Proofs.YtknbnefbgpnkgaaGreat
