/- The laws FnEdits, FnEdited and FnSwapped return true whatever the input, and the input reads behind the call as before. No condition. -/
import Derived.Test.YtknbnefbgpnkgaaGreatFed24
import Derived.Test.YtknbnefbgpnkgaaGreatFed33
set_option maxHeartbeats 40000000
set_option maxRecDepth 20000
set_option linter.unusedSimpArgs false
set_option linter.unusedVariables false
namespace Go.Proofs.YtknbnefbgpnkgaaGreat
open Go.Gh
open Nat (reduceEqDiff reduceLeDiff reduceAdd reduceLT)
open Int (reduceNe)
theorem w4 (bs:List UInt8):Pu 4 [Bs bs] (· = B true):=by
 refine ZZ mxd i4 rfl (by simp) ?_;refine X0 ?_
 (refine V0 ?_)
 refine callS.eq (w8 bs) ?_
 by_cases hb:(1048576:Int)<bs.length
 ·have hb':=eq_true hb
  (refine V1 (jO hb' @decide_true) ?_;with_reducible repeat' exact trivial)
 ·have hb':=eq_false hb
  (refine V1 (jO hb' @decide_false) ?_)
  refine callS.of ((w15 bs oT).frame _) ?_
  rintro _ _ ⟨⟨g,t,e,hg,ht,he,rfl⟩,rfl⟩ _
  have hsm:=drG_sm hg
  have hok:=drG_ok hg
  obtain ⟨hl,hk,_⟩:=bentT_sm ht
  obtain ⟨he1,he2⟩:=drE_sm he
  have q1:=q16 g t e hsm hok hl hk he1 he2
  have q2:=q17 g t e hsm hok hl hk he1 he2
  have q3:=w18 (edT g t e).1 (edT g t e).1
  rw[all2_refl] at q3
  have q4:=w18 t t
  rw[all2_refl] at q4
  have hni:=w20 t e.node
  have hss:=w21 t (Zz t e.node)
  by_cases hc:(edT g t e).2 = 0
  ·obtain ⟨h1,h2⟩:=edited_law hc
   have hgd:=tree_goodT hg h1
   obtain ⟨hl2,hk2⟩:=goodT_sm hgd
   have q5:=w19 g (edT g t e).1 hsm hl2 hk2
   rw[h1] at q5
   have hni2:=fun n=>w20 (edT g t e).1 n
   obtain ⟨i,hi,hil⟩:=edT_ix hc
   rw[show Zg (fun y:Nod=>decide (y.id=e.node)) t=(i:Int) from hi] at hni
   rw[hi,Int.toNat_natCast] at h2
   rw[hi,YB hil] at hss
   have hsl:ZC t i≤t.length:=by have:=Yr (t:=t) (i:=i) hil;omega
   rw[hc] at q1 q2
   have hul:(edT g t e).1.length ≤ 1048576:=hl2
   generalize ZC t i=n at *
   unfold Zz at h2
   generalize (edT g t e).1 = U at *
   (refine V0 ?_)
   refine callS.eq q1 ?_
   (refine V0 ?_)
   refine callS.eq q2 ?_
   (refine V0 ?_)
   refine callS.eq q3 ?_
   (refine V0 ?_)
   refine callS.eq q5 ?_
   (refine V0 ?_)
   refine callS.eq hni ?_
   (refine V0 ?_)
   have hw:IntKind.i64.wrap ((i:Int)+(n:Int))=i+n:=wrap64 oT oT
   refine ZK mxd (ι:={ k:Nat // k≤t.length }) (fun k=>[(3,.rop 2 (Gr g)),(4,.rop 1 (Tr t)),(6,.rop 1 (Tr U)),(10,I i),(11,I k.1)]) (fun _ => []) (fun k=>t.length-k.1) ⟨0,oT⟩ (by simp[E2]) rfl ?_
   rintro ⟨k,hk2⟩
   dsimp only
   rcases nL k t.length with hlk|hgk
   ·have hnk:=hni2 t[k].id
    by_cases hin:i≤k∧k<i+n
    ·have b1:=eq_true (show (i:Int)≤k by omega)
     have b2:=eq_true (show (k:Int)<i+n by omega)
     generalize Zg (fun y:Nod=>decide (y.id=t[k].id)) U=j at hnk
     clear h2 hni2
     (refine V0 ?_;with_reducible repeat' intro h)
     all_goals try exact oF
     refine callS.eq hnk ?_
     (refine R1 (jO b1 @decide_true) ?_)
     all_goals try exact oF
     refine callS.eq hss ?_
     (refine R1 (jO hw (jO b2 @decide_true)) ?_)
     all_goals try exact oF
     exact nx ⟨k+1,oT⟩ (by dsimp only;omega) (by simp[E2]) rfl
    ·obtain ⟨j,e1,hj,e2,e3⟩:=h2 k hlk oT
     rw[e1] at hnk
     clear h2 hni2
     have bj:=eq_false (show ¬(j:Int)<0 by omega)
     by_cases hki:i≤k
     ·have b1:=eq_true (show (i:Int)≤k by omega)
      have b2:=eq_false (show ¬(k:Int)<i+n by omega)
      (refine V0 ?_;with_reducible repeat' intro h)
      all_goals try exact oF
      refine callS.eq hnk ?_
      (refine R1 (jO b1 @decide_true) ?_)
      all_goals try exact oF
      refine callS.eq hss ?_
      (refine R1 (jO hw (jO b2 (jO bj (jO @decide_false (jO e2 (jO e3 @decide_true)))))) ?_)
      all_goals try exact oF
      exact nx ⟨k+1,oT⟩ (by dsimp only;omega) (by simp[E2]) rfl
     ·have b1:=eq_false (show ¬(i:Int)≤k by omega)
      (refine V0 ?_;with_reducible repeat' intro h)
      all_goals try exact oF
      refine callS.eq hnk ?_
      (refine R1 (jO b1 (jO bj (jO @decide_false (jO e2 (jO e3 @decide_true))))) ?_)
      all_goals try exact oF
      exact nx ⟨k+1,oT⟩ (by dsimp only;omega) (by simp[E2]) rfl
   ·(refine V0 ?_;with_reducible repeat' intro h)
    all_goals try exact oF
  ·have hs:=edT_same hc
   rw[hs] at q1 q2 q3
   generalize (edT g t e).2 = c at *
   have hc':=eq_false hc
   (refine V0 ?_)
   refine callS.eq q1 ?_
   (refine V0 ?_)
   refine callS.eq q2 ?_
   (refine V0 ?_)
   refine callS.eq q3 ?_
   (refine V1 (jO hc' @decide_false) ?_)
   refine callS.eq q4 ?_
   (refine V0 ?_;with_reducible repeat' exact trivial)
end Go.Proofs.YtknbnefbgpnkgaaGreat
