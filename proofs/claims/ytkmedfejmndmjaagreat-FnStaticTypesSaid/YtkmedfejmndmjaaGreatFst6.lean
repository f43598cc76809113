/- The law FnStaticTypes returns true whatever the input, and the input reads behind the call as before. No condition. -/
import Derived.Test.YtkmedfejmndmjaaGreatFst2
set_option maxHeartbeats 40000000
set_option maxRecDepth 20000
set_option linter.unusedSimpArgs false
set_option linter.unusedVariables false
namespace Go.Proofs.YtkmedfejmndmjaaGreat
open Go.Gh
open Nat (reduceEqDiff reduceLeDiff reduceAdd reduceLT)
open Int (reduceNe)
theorem Tryz.dec_i {p:Prop} {i:Decidable p}:(@decide p i=true)=p:=propext ⟨of_decide_eq_true,decide_eq_true⟩
theorem Tryz.chN (s:ByteArray):(ZR s=ZR (⟨#[]⟩:ByteArray))=(s=noS):=propext chars_inj
theorem w250 (e:Exp) (hl:e.args.length≤1048576):Pu 250 [Ex e] (· = B (bareV e)):=by
 have hk:e.kind=1∨e.kind=3∨e.kind=4∨e.kind=5∨e.kind=6∨e.kind=8∨(¬e.kind=1∧¬e.kind=3∧¬e.kind=4∧¬e.kind=5∧¬e.kind=6∧¬e.kind=8):=by omega
 have hl0:((e.args.length:Int)=0)=(e.args.length=0):=propext oT
 have hl1:((e.args.length:Int)=1)=(e.args.length=1):=propext oT
 have hl2:((e.args.length:Int)=2)=(e.args.length=2):=propext oT
 have hl3:((e.args.length:Int)=3)=(e.args.length=3):=propext oT
 rcases hk with hk|hk|hk|hk|hk|hk|⟨hk1,hk3,hk4,hk5,hk6,hk8⟩
 all_goals
  refine Z5 mxd i250 rfl (by simp) ?_;refine X0 ?_
  first|simp (maxSteps:=9^7) only[↓ S2,S2,ZF,↓reduceIte,reduceNe,reduceEqDiff,reduceCtorEq,reduceLeDiff,reduceAdd,reduceLT,XE,hk,Int.reduceEq,decide_false,decide_true,hl0,hl1,hl2,hl3]|simp (maxSteps:=9^7) only[↓ S2,S2,ZF,↓reduceIte,reduceNe,reduceEqDiff,reduceCtorEq,reduceLeDiff,reduceAdd,reduceLT,XE,hk1,hk3,hk4,hk5,hk6,hk8,Int.reduceEq,decide_false,decide_true,hl0,hl1,hl2,hl3]
  try simp only[Tryz.chN]
  clear hl0 hl1 hl2 hl3
  (with_reducible repeat' (first|intro h|refine jO oT ?_ | refine exP oT ?_ | apply jO))
  all_goals
   congr 2
   rw[Bool.eq_iff_iff]
   simp[bareV,arity,Tryz.dec_i, *]
end Go.Proofs.YtkmedfejmndmjaaGreat
