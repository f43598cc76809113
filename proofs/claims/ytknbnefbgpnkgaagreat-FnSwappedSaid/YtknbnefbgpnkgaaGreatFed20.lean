/- The laws FnEdits, FnEdited and FnSwapped return true whatever the input, and the input reads behind the call as before. No condition. -/
import Derived.Test.YtknbnefbgpnkgaaGreatFed19
set_option maxHeartbeats 40000000
set_option maxRecDepth 20000
set_option linter.unusedSimpArgs false
set_option linter.unusedVariables false
namespace Go.Proofs.YtknbnefbgpnkgaaGreat
open Go.Gh
open Nat (reduceEqDiff reduceLeDiff reduceAdd reduceLT)
open Int (reduceNe)
theorem w55 (g:Gram) (hs:ZA g) (hg:okGr g):Pu 55 [Gr g] (· = B (accG g)):=by
 refine ZZ mxd i55 rfl (by simp) ?_;refine X0 ?_
 (refine V0 ?_)
 refine callS.eq (w111 g hs hg) ?_
 (refine V0 ?_)
 rfl
theorem w63 (g:Gram) (hs:ZA g) (hg:okGr g):Pu 63 [Gr g] (· = B (accG g)):=by
 refine ZZ mxd i63 rfl (by simp) ?_;refine X0 ?_
 (refine V0 ?_)
 refine callS.eq (w118 g hs hg) ?_
 (refine V0 ?_)
 rfl
end Go.Proofs.YtknbnefbgpnkgaaGreat
