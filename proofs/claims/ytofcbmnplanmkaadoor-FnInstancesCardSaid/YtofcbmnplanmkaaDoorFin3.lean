/- The law FnInstances returns true whatever the input, and the input reads behind the call as before. No condition. -/
import Derived.Test.YtofcbmnplanmkaaDoorFin1
set_option maxHeartbeats 40000000
set_option linter.unusedSimpArgs false
set_option linter.unusedVariables false
namespace Go.Proofs.YtofcbmnplanmkaaDoor
open Go.Gh
open Nat (reduceEqDiff reduceLeDiff reduceAdd reduceLT)
open Int (reduceNe)
set_option maxRecDepth 20000
set_option linter.unusedSimpArgs false
set_option linter.unusedVariables false
theorem w25 (L:List Oc) (y:Oc):Pu 25 [InsS L,Ins y] (· = I (ixI L y)):=by
 refine GCalls.lenA fun hlen=> ?_
 have hlen:=hlen.1.1
 simp only [List.length_map,Zq] at hlen
 refine ZR mxd i25 rfl (by simp) ?_;refine X0 ?_
 (refine V0 ?_;with_reducible repeat' first|exact trivial|intro h|refine aO ?_|refine eO ?_|apply jO)
 refine Zl mxd (ι:={ i:Nat // i≤L.length∧∀a∈L.take i,decide (a=y)=false }) (fun i=>[(0,InsS L),(3,.rop 2 (Ins y)),(7,I L.length),(8,I i.1)]) (fun _ => []) (fun i=>L.length-i.1) ⟨0,by simp⟩ (by simp [E2]) rfl ?_
 rintro ⟨i,hi,hn⟩
 rcases nL i L.length with hlt|hge
 ·by_cases he:L[i]=y
  ·have he1:y.1=L[i].1 := by rw [he]
   have he2:y.2=L[i].2 := by rw [he]
   have e:ixI L y=i:=ixOf_hit hlt (by simp [he]) hn
   rw [e]
   (refine V1 (jO he1 he2) ?_;with_reducible repeat' first|exact trivial|intro h|refine aO ?_|refine eO ?_|apply jO)
   all_goals first|rfl|(exfalso;omega)
  ·(refine V0 ?_;with_reducible repeat' first|exact trivial|intro h|refine aO ?_|refine eO ?_|apply jO)
   all_goals first
    | (exfalso;exact he (Prod.ext (Eq.symm (by assumption)) (Eq.symm (by assumption))))
    | (exfalso;omega)
    | exact nx ⟨i+1,by omega,YX hlt (by simp [he]) hn⟩ (by simp;omega) (by simp [E2]) rfl
 ·obtain rfl:i=L.length:=by omega
  rw [List.take_length] at hn
  have e:ixI L y = -1:=ixOf_none hn
  rw [e]
  (refine V0 ?_;with_reducible repeat' first|exact trivial|intro h|refine aO ?_|refine eO ?_|apply jO)
  all_goals first|rfl|(exfalso;omega)
theorem w12 (L:List Oc) (y:Oc):Pu 12 [InsS L,Ins y] (· = I (ixI L y)):=by
 refine ZR mxd i12 rfl (by simp) ?_;refine X0 ?_
 (refine V0 ?_;with_reducible repeat' first|exact trivial|intro h|refine aO ?_|refine eO ?_|apply jO)
 refine callS.eq (w25 L y) ?_
 (refine V0 ?_;with_reducible repeat' first|exact trivial|intro h|refine aO ?_|refine eO ?_|apply jO)
end Go.Proofs.YtofcbmnplanmkaaDoor
