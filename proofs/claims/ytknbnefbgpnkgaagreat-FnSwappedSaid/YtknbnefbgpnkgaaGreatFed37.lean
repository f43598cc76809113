/- The laws FnEdits, FnEdited and FnSwapped return true whatever the input, and the input reads behind the call as before. No condition. -/
import Derived.Test.YtknbnefbgpnkgaaGreatFed24
import Derived.Test.YtknbnefbgpnkgaaGreatFed33
set_option maxHeartbeats 40000000
set_option maxRecDepth 20000
set_option linter.unusedSimpArgs false
set_option linter.unusedVariables false
namespace Go.Proofs.YtknbnefbgpnkgaaGreat
open Go.Gh
open Nat (reduceEqDiff reduceLeDiff reduceAdd reduceLT)
open Int (reduceNe)
theorem w5 (bs:List UInt8):Pu 5 [Bs bs] (· = B true):=by
 refine ZZ mxd i5 rfl (by simp) ?_;refine X0 ?_
 (refine V0 ?_)
 refine callS.eq (w8 bs) ?_
 by_cases hb:(1048576:Int)<bs.length
 ·have hb':=eq_true hb
  (refine V1 (jO hb' @decide_true) ?_;with_reducible repeat' exact trivial)
 ·have hb':=eq_false hb
  (refine V1 (jO hb' @decide_false) ?_)
  refine callS.of ((w15 bs oT).frame _) ?_
  rintro _ _ ⟨⟨g,t,e,hg,ht,he,rfl⟩,rfl⟩ _
  have hsm:=drG_sm hg
  have hok:=drG_ok hg
  obtain ⟨hl,hk,_⟩:=bentT_sm ht
  have htl:1≤t.length:=ht.2.1
  have htl':=eq_true (show (0:Int)<t.length by omega)
  obtain ⟨he1,he2⟩:=drE_sm he
  obtain ⟨k,hk1,ek⟩:=tmod_rng (a:=(at0N bs 1:Int)) (n:=t.length) oT oT
  have hkl:k<t.length:=hk1
  have q7:=w22 bs oT 1 oT
  (refine V1 (jO htl' (jO @decide_true @List.length_map.{0,0})) ?_;with_reducible repeat' intro h)
  all_goals try exact oF
  refine callS.eq q7 ?_
  (refine V1 (jO ek @List.length_map.{0,0}) ?_)
  all_goals try exact oF
  generalize hid:t[k].id = id0 at *
  have q1:=q16 g t ⟨3,e.node,id0,e.lit,e.tree⟩ hsm hok hl hk he1 he2
  have q2:=q17 g t ⟨3,e.node,id0,e.lit,e.tree⟩ hsm hok hl hk he1 he2
  have q4:=w18 t t
  rw[all2_refl] at q4
  by_cases hc:(edT g t ⟨3,e.node,id0,e.lit,e.tree⟩).2 = 0
  ·have hsw:=swapped_law (e:=⟨3,e.node,id0,e.lit,e.tree⟩) rfl hc
   obtain ⟨hl2,hk2⟩:=goodT_sm (tree_goodT hg (edited_law hc).1)
   have q3:=q16 g (edT g t ⟨3,e.node,id0,e.lit,e.tree⟩).1 ⟨3,e.node,id0,e.lit,e.tree⟩ hsm hok hl2 hk2 he1 he2
   rw[hsw] at q3
   rw[hc] at q1 q2
   clear hsw
   generalize (edT g t ⟨3,e.node,id0,e.lit,e.tree⟩).1 = U at *
   clear hc
   refine callS.eq q1 ?_
   (refine V0 ?_)
   refine callS.eq q2 ?_
   (refine V0 ?_)
   refine callS.eq q3 ?_
   (refine V0 ?_)
   refine callS.eq q4 ?_
   (refine V0 ?_;with_reducible repeat' exact trivial)
  ·have hs:=edT_same hc
   rw[hs] at q1 q2
   generalize (edT g t ⟨3,e.node,id0,e.lit,e.tree⟩).2 = c at *
   have hc':=eq_false hc
   clear hs
   refine callS.eq q1 ?_
   (refine V0 ?_)
   refine callS.eq q2 ?_
   (refine V1 (jO hc' @decide_false) ?_)
   refine callS.eq q4 ?_
   (refine V0 ?_;with_reducible repeat' exact trivial)
end Go.Proofs.YtknbnefbgpnkgaaGreat
