/- The laws FnStatic and FnStaticTypes return true whatever the input, and the input reads behind the call as before. No condition. -/
import Derived.Test.YtknbnefbgpnkgaaGreatFst32
set_option maxHeartbeats 40000000
set_option maxRecDepth 20000
set_option linter.unusedSimpArgs false
set_option linter.unusedVariables false
namespace Go.Proofs.YtknbnefbgpnkgaaGreat
open Go.Gh
open Nat (reduceEqDiff reduceLeDiff reduceAdd reduceLT)
open Int (reduceNe)
theorem w201 (n k:Int):Pu 201 [I n,I k] (· = ExN (.mk 1 n 0 k noS noS [])):=by
 refine Z5 mxd i201 rfl (by simp) ?_;refine X0 ?_
 (refine V0 ?_)
 rfl
theorem o200 (op:Int) (a b:Exp) (H:GH):Gc 200 [I op,Ex a,Ex b] H (fun g H'=>∃H1,(∃r,g=ExR (.mk 4 op 0 0 noS noS [a,b]) r∧H1=[(r,7,[Ex a,Ex b])])∧H'=H1++H):=by
 refine Z5 mxd i200 rfl (by simp) ?_;refine X0 ?_
 (refine V1 @XE ?_;with_reducible repeat' intro h)
 exact ⟨_,⟨_,rfl,rfl⟩,rfl⟩
theorem w164 (kind:Int) (l:List Oc) (hl:∀o∈l,shT o.2):Dv Tryz.prog 164 [I kind,OcS l] (fun g=>∃e,e.args=[]∧shD 0 e∧g=ExN e):=by
 refine Dv.of0 fun rc H=> ?_
 refine Z5 mxd i164 rfl (by simp) ?_;refine X0 ?_
 (refine V0 ?_;with_reducible repeat' first|intro h|apply jO)
 (repeat' ((first|(refine callS.dv (wz42 _ oT) (by first|exact ZZ|(simp only[Z9, *,if_true,if_false];done)) ?_;rintro _ ⟨_,_,rfl⟩)|(refine callS.dv (w42 _) (by first|exact ZZ|(simp only[Z9, *,if_true,if_false];done)) ?_;rintro _ ⟨_,_,_,_,rfl⟩)|(refine callS.dv (w41 _) (by first|exact ZZ|(simp only[Z9, *,if_true,if_false];done)) ?_;rintro _ ⟨_,rfl⟩)|(refine callS.dv (w106 _ rfl (by simp)) (by first|exact ZZ|(simp only[Z9, *,if_true,if_false];done)) ?_;intro _ hg;obtain ⟨_,_,rfl⟩:=ltT_mem rfl hg;clear hg)|(refine callS.dv (w110 _ rfl (by simp)) (by first|exact ZZ|(simp only[Z9, *,if_true,if_false];done)) ?_;intro _ hg;obtain ⟨_,_,rfl⟩:=Ye (lo:= -9223372036854775808) (hi:=9223372036854775807) rfl hg;clear hg)|(with_reducible refine callS.eq (w201 _ _) ?_)|(refine callA.dv (wz42 _ oT) (by first|exact ZZ|(simp only[Z9, *,if_true,if_false];done)) ?_;rintro _ ⟨_,_,rfl⟩)|(refine callA.dv (w42 _) (by first|exact ZZ|(simp only[Z9, *,if_true,if_false];done)) ?_;rintro _ ⟨_,_,_,_,rfl⟩)|(refine callA.dv (w41 _) (by first|exact ZZ|(simp only[Z9, *,if_true,if_false];done)) ?_;rintro _ ⟨_,rfl⟩)|(refine callA.dv (w106 _ rfl (by simp)) (by first|exact ZZ|(simp only[Z9, *,if_true,if_false];done)) ?_;intro _ hg;obtain ⟨_,_,rfl⟩:=ltT_mem rfl hg;clear hg)|(refine callA.dv (w110 _ rfl (by simp)) (by first|exact ZZ|(simp only[Z9, *,if_true,if_false];done)) ?_;intro _ hg;obtain ⟨_,_,rfl⟩:=Ye (lo:= -9223372036854775808) (hi:=9223372036854775807) rfl hg;clear hg)|(with_reducible refine callA.eq (w201 _ _) ?_));(refine V0 ?_;with_reducible repeat' first|intro h|apply jO)))
 all_goals first
  | exact ⟨.mk _ _ _ _ noS noS [],rfl,shD_leaf (by decide) (by decide),rfl⟩
  | exact ⟨.mk _ _ _ _ noS _ [],rfl,shD_leaf (by decide) (hl _ (gM _)),rfl⟩
  | exact u64_nn _
end Go.Proofs.YtknbnefbgpnkgaaGreat
