/- The laws FnStatic and FnStaticTypes return true whatever the input, and the input reads behind the call as before. No condition. -/
import Derived.Test.YtknbnefbgpnkgaaGreatFst2
set_option maxHeartbeats 40000000
set_option maxRecDepth 20000
set_option linter.unusedSimpArgs false
set_option linter.unusedVariables false
namespace Go.Proofs.YtknbnefbgpnkgaaGreat
open Go.Gh
open Nat (reduceEqDiff reduceLeDiff reduceAdd reduceLT)
open Int (reduceNe)
theorem w257 (g:Gram) (r:Rul) (e:Exp) (hl:e.args.length≤1048576) (ih:∀a∈e.args,Pu 216 [Gr g,Ru r,Ex a] (· = I (tyE g r a))):Pu 257 [Gr g,Ru r,Ex e] (· = I (if (e.args.map (tyE g r)).length = 2∧(e.args.map (tyE g r)).getD 0 0=(opT e.n).1 ∧ (e.args.map (tyE g r)).getD 1 0=(opT e.n).2.1 then (opT e.n).2.2 else 0)):=by
 refine Z5 mxd i257 rfl (by simp) ?_;refine X0 ?_
 (repeat' (first|(with_reducible refine callS.eq (w199 _) ?_)|(with_reducible refine callS.eq (ih _ (gM _)) ?_)|simp (maxSteps:=9^7) only[↓ S2,S2,ZH,↓reduceIte,reduceNe,reduceEqDiff,reduceCtorEq,reduceLeDiff,reduceAdd,reduceLT,XE]|simp only[ZP]|simp +contextual (disch:=omega) only[Z2]|with_reducible first|intro h|refine jO oT ?_ | refine exP oT ?_ | apply jO))
 all_goals try exact oF
 ·rw[if_pos ⟨oT,by rw[YI oT];assumption,by rw[YI oT];assumption⟩]
 ·rw[if_neg (fun ⟨h1,h2,h3⟩=>by rw[YI oT] at h3;contradiction)]
 ·rw[if_neg (fun ⟨h1,h2,h3⟩=>by rw[YI oT] at h2;contradiction)]
 ·rw[if_neg (fun ⟨h1,h2,h3⟩=>by omega)]
theorem w258 (g:Gram) (r:Rul) (e:Exp) (hl:e.args.length≤1048576) (ih:∀a∈e.args,Pu 216 [Gr g,Ru r,Ex a] (· = I (tyE g r a))):Pu 258 [Gr g,Ru r,Ex e] (· = I (if (e.args.map (tyE g r)).length = 3∧(e.args.map (tyE g r)).getD 0 0=3∧(e.args.map (tyE g r)).getD 1 0=(e.args.map (tyE g r)).getD 2 0 then (e.args.map (tyE g r)).getD 1 0 else 0)):=by
 refine Z5 mxd i258 rfl (by simp) ?_;refine X0 ?_
 (repeat' (first|(with_reducible refine callS.eq (ih _ (gM _)) ?_)|simp (maxSteps:=9^7) only[↓ S2,S2,ZH,↓reduceIte,reduceNe,reduceEqDiff,reduceCtorEq,reduceLeDiff,reduceAdd,reduceLT,XE]|simp only[ZP]|simp +contextual (disch:=omega) only[Z2]|with_reducible first|intro h|refine jO oT ?_ | refine exP oT ?_ | apply jO))
 all_goals try exact oF
 ·rw[if_pos ⟨oT,by rw[YI oT];assumption,by rw[YI oT,YI oT];assumption⟩,YI oT]
  rfl
 ·rw[if_neg (fun ⟨h1,h2,h3⟩=>by rw[YI oT,YI oT] at h3;contradiction)]
 ·rw[if_neg (fun ⟨h1,h2,h3⟩=>by rw[YI oT] at h2;contradiction)]
 ·rw[if_neg (fun ⟨h1,h2,h3⟩=>by omega)]
theorem w216 (g:Gram) (r:Rul) (hg:ZI g) (hr:Zb r):∀e:Exp,wEx e≤1048576→Pu 216 [Gr g,Ru r,Ex e] (· = I (tyE g r e)):=by
 refine Exp.indA fun e ih hw=> ?_
 obtain ⟨hl,ha⟩:=YS hw
 have hrr:=hr.1
 refine Z5 mxd i216 rfl (by simp) ?_;refine X0 ?_
 rw[tyE_eq]
 have hk:e.kind=1∨e.kind=2∨e.kind=3∨e.kind=4∨e.kind=5∨e.kind=6∨e.kind=7∨e.kind=8∨(¬e.kind=1∧¬e.kind=2∧¬e.kind=3∧¬e.kind=4∧¬e.kind=5∧¬e.kind=6∧¬e.kind=7∧¬e.kind=8):=by omega
 rcases hk with hk|hk|hk|hk|hk|hk|hk|hk|hk
 all_goals (repeat' (first|(with_reducible refine callS.eq (w64 _ _ _) ?_)|(with_reducible refine callS.eq (w162 _ _ hr) ?_)|(with_reducible refine callS.eq (w217 _ _ _ hg) ?_)|(with_reducible refine callS.eq (w257 g r e hl (fun a h=>ih a h (ha a h))) ?_)|(with_reducible refine callS.eq (w258 g r e hl (fun a h=>ih a h (ha a h))) ?_)|(with_reducible refine callS.eq (ih _ (gM _) (ha _ (gM _))) ?_)|simp (maxSteps:=9^7) only[↓ S2,S2,ZH,↓reduceIte,reduceNe,reduceEqDiff,reduceCtorEq,reduceLeDiff,reduceAdd,reduceLT,XE,hk]|simp only[ZP]|simp +contextual (disch:=omega) only[Z2]|with_reducible first|intro h|refine jO oT ?_ | refine exP oT ?_ | apply jO))
 all_goals try exact oF
 all_goals simp only[tyK,hk,Zl,Int.reduceEq,reduceIte,List.length_map]
 all_goals first
  | (rw[if_pos (by assumption)];done)
  | (rw[if_neg (by assumption)];rfl)
  | (rw[if_pos ⟨oT,by rw[YI oT];assumption⟩];done)
  | (rw[if_neg (fun ⟨h1,h2⟩=>by rw[YI oT] at h2;contradiction)];done)
  | (rw[if_neg (fun ⟨h1,h2⟩=>by omega)];done)
  | (rw[if_neg (by simp_all)];done)
  | (split<;>simp_all;done)
  | skip
 by_cases hc:e.args.length=3∧(e.args.map (tyE g r)).getD 0 0=3∧(e.args.map (tyE g r)).getD 1 0=(e.args.map (tyE g r)).getD 2 0
 ·rw[if_pos hc,if_pos hc,hc.2.2]
 ·rw[if_neg hc,if_neg hc]
end Go.Proofs.YtknbnefbgpnkgaaGreat
