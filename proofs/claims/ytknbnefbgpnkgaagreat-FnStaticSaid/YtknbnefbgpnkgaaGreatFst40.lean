/- The laws FnStatic and FnStaticTypes return true whatever the input, and the input reads behind the call as before. No condition. -/
import Derived.Test.YtknbnefbgpnkgaaGreatFst39
set_option maxHeartbeats 40000000
set_option maxRecDepth 20000
set_option linter.unusedSimpArgs false
set_option linter.unusedVariables false
namespace Go.Proofs.YtknbnefbgpnkgaaGreat
open Go.Gh
open Nat (reduceEqDiff reduceLeDiff reduceAdd reduceLT)
open Int (reduceNe)
theorem w3 (bs:List UInt8):Pu 3 [Bs bs] (· = B true):=by
 refine Z5 mxd i3 rfl (by simp) ?_;refine X0 ?_
 (refine V0 ?_)
 refine callS.eq (w8 bs) ?_
 by_cases hb:(1048576:Int)<bs.length
 ·have hb':=eq_true hb
  (refine V1 (jO hb' @decide_true) ?_;with_reducible repeat' exact trivial)
 ·have hb':=eq_false hb
  (refine V1 (jO hb' @decide_false) ?_)
  refine callS.of ((w9 bs oT).frame _) ?_
  rintro _ _ ⟨⟨g,t,vs,hg,ht,hvl,rfl⟩,rfl⟩ _
  have hsm:=drG_sm hg
  have hok:=drG_ok hg
  obtain ⟨hl,hk,_⟩:=bentT_sm ht
  have hrl:=runL_small hg ht
  have q1:=q10 g t hsm hok hl hk
  have q2:=q11 g t hsm hok hl hk
  have q3:=w12 (YO g t) (YO g t) oT
  rw[show decide (YO g t=YO g t)=true by simp] at q3
  have q4:=w13 g t vs hsm hok hl hk
  have q5:=w14 g t vs hsm hok hl hk oT
  have q6:=w13 g t (YO g t) hsm hok hl hk
  have q7:=w12 vs (YO g t) oT
  have hlaw:=fun h1 h2=>static_sol (g:=g) (t:=t) hsm h1 h2 vs
  generalize solB g t vs=sb at *
  generalize solB g t (YO g t)=sr at *
  generalize YO g t=R at *
  generalize runB g t=rb at *
  (refine V0 ?_)
  refine callS.eq q1 ?_
  (refine V0 ?_)
  refine callS.eq q2 ?_
  (refine V0 ?_)
  refine callS.eq q3 ?_
  (refine V0 ?_)
  refine callS.eq q4 ?_
  (refine V0 ?_)
  refine callS.eq q5 ?_
  cases rb
  ·(refine V0 ?_;with_reducible repeat' exact trivial)
  ·by_cases h0:R.length=0
   ·have h0':=eq_true (show (R.length:Int)=0 by omega)
    (refine V1 (jO h0' (jO @decide_true @List.length_map.{0,0})) ?_;with_reducible repeat' exact trivial)
   ·have h0':=eq_false (show ¬(R.length:Int)=0 by omega)
    obtain ⟨e1,e2⟩:=hlaw rfl oT
    subst e1
    subst e2
    (refine V1 (jO h0' (jO @decide_false @List.length_map.{0,0})) ?_)
    refine callS.eq q6 ?_
    (refine V0 ?_)
    refine callS.eq q7 ?_
    (refine V1 @decide_true ?_;with_reducible repeat' exact trivial)
    all_goals simp
end Go.Proofs.YtknbnefbgpnkgaaGreat
