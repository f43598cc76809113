/- The law FnStaticTypes returns true whatever the input, and the input reads behind the call as before. No condition. -/
import Derived.Test.YtkmedfejmndmjaaGreatFst12
set_option maxHeartbeats 40000000
set_option maxRecDepth 20000
set_option linter.unusedSimpArgs false
set_option linter.unusedVariables false
namespace Go.Proofs.YtkmedfejmndmjaaGreat
open Go.Gh
open Nat (reduceEqDiff reduceLeDiff reduceAdd reduceLT)
open Int (reduceNe)
theorem q114 (T:List (List Int)) (hT:okT T) (goal:Nat) (hg:goal<T.length):Pu 114 [TbS T,I goal] (· = IS (YB (dst T goal))):=
 Pure.bor ((o114 T hT goal hg []).mono fun v H' ⟨H1,⟨r,h1,h2⟩,h3⟩=>by
  subst h1;subst h2;subst h3
  exact X6 ZZ (by simp[YB,dst,dL_len]))
end Go.Proofs.YtkmedfejmndmjaaGreat
