/- The law FnSubtrees returns true whatever the input, and the input reads behind the call as before. No condition. -/
import Derived.Test.YtfpjmfjhdaccnaaFsu15
import Derived.Test.YtfpjmfjhdaccnaaFsu17
set_option linter.unusedSimpArgs false
set_option linter.unusedVariables false
set_option maxHeartbeats 40000000
namespace Go.Proofs.Ytfpjmfjhdaccnaa
open Go.Gh
open Nat (reduceEqDiff reduceLeDiff reduceAdd reduceLT)
open Int (reduceNe)
set_option maxRecDepth 20000
set_option linter.unusedSimpArgs false
set_option linter.unusedVariables false
theorem w5 (bs : List UInt8) : Pu 5 [Bs bs] (· = B true) := by
 refine gstart mxd i5 rfl (by simp) ?_; simp (maxSteps := 9^7) only [↓ S2, S2, vIte, ↓reduceIte, reduceNe, reduceEqDiff, reduceCtorEq, reduceLeDiff, reduceAdd, reduceLT]
 ((try refine qI ?_); (repeat ((first | with_reducible refine qU ?_ | simp only [brGen]); try simp (maxSteps := 9^7) +contextual only [↓ S2, S2, ↓reduceIte, reduceNe, reduceEqDiff, reduceCtorEq, reduceLeDiff, reduceAdd, reduceLT, VQ, ])); (try simp +contextual (disch := omega) only [Z2, ]); (with_reducible repeat' (first | intro h | refine And.intro (by omega) ?_ | refine exP (by omega) ?_ | apply And.intro)))
 refine callS.eq (w6 bs) ?_
 by_cases hb : (1048576 : Int) < bs.length
 ·have hb' := eq_true hb
  ((try refine qI ?_); (repeat ((first | with_reducible refine qU ?_ | simp only [brGen]); try simp (maxSteps := 9^7) +contextual only [↓ S2, S2, ↓reduceIte, reduceNe, reduceEqDiff, reduceCtorEq, reduceLeDiff, reduceAdd, reduceLT, VQ, hb', decide_true])); (try simp +contextual (disch := omega) only [Z2, hb', decide_true]); (with_reducible repeat' (first | intro h | refine And.intro (by omega) ?_ | refine exP (by omega) ?_ | apply And.intro)))
 ·have hb' := eq_false hb
  ((try refine qI ?_); (repeat ((first | with_reducible refine qU ?_ | simp only [brGen]); try simp (maxSteps := 9^7) +contextual only [↓ S2, S2, ↓reduceIte, reduceNe, reduceEqDiff, reduceCtorEq, reduceLeDiff, reduceAdd, reduceLT, VQ, hb', decide_false])); (try simp +contextual (disch := omega) only [Z2, hb', decide_false]); (with_reducible repeat' (first | intro h | refine And.intro (by omega) ?_ | refine exP (by omega) ?_ | apply And.intro)))
  refine callS.of ((w22 bs (by omega)).frame _) ?_
  rintro _ _ ⟨⟨t, i, u, ht, hu, hi, rfl⟩, rfl⟩ _
  obtain ⟨hl, hx, _⟩ := bentT_sm ht
  obtain ⟨hul, hux, _⟩ := bentT_sm hu
  have hsz : ((subT t i).length : Int) = treeSize t i := subT_size t i
  have hup := (bentT_goodN hu).2
  have hull := (bentT_goodN hu).1
  have htll := (bentT_goodN ht).1
  have hsl : (subT t i).length ≤ t.length := subT_le t i
  ((try refine qI ?_); (repeat ((first | with_reducible refine qU ?_ | simp only [brGen]); try simp (maxSteps := 9^7) +contextual only [↓ S2, S2, ↓reduceIte, reduceNe, reduceEqDiff, reduceCtorEq, reduceLeDiff, reduceAdd, reduceLT, VQ, ])); (try simp +contextual (disch := omega) only [Z2, ]); (with_reducible repeat' (first | intro h | refine And.intro (by omega) ?_ | refine exP (by omega) ?_ | apply And.intro)))
  refine callS.eq (q23 t i hl hx) ?_
  ((try refine qI ?_); (repeat ((first | with_reducible refine qU ?_ | simp only [brGen]); try simp (maxSteps := 9^7) +contextual only [↓ S2, S2, ↓reduceIte, reduceNe, reduceEqDiff, reduceCtorEq, reduceLeDiff, reduceAdd, reduceLT, VQ, ])); (try simp +contextual (disch := omega) only [Z2, ]); (with_reducible repeat' (first | intro h | refine And.intro (by omega) ?_ | refine exP (by omega) ?_ | apply And.intro)))
  refine callS.eq (q25 t i hl hx) ?_
  ((try refine qI ?_); (repeat ((first | with_reducible refine qU ?_ | simp only [brGen]); try simp (maxSteps := 9^7) +contextual only [↓ S2, S2, ↓reduceIte, reduceNe, reduceEqDiff, reduceCtorEq, reduceLeDiff, reduceAdd, reduceLT, VQ, ])); (try simp +contextual (disch := omega) only [Z2, ]); (with_reducible repeat' (first | intro h | refine And.intro (by omega) ?_ | refine exP (by omega) ?_ | apply And.intro)))
  refine callS.eq (w24 _ _) ?_
  rw [all2_refl]
  ((try refine qI ?_); (repeat ((first | with_reducible refine qU ?_ | simp only [brGen]); try simp (maxSteps := 9^7) +contextual only [↓ S2, S2, ↓reduceIte, reduceNe, reduceEqDiff, reduceCtorEq, reduceLeDiff, reduceAdd, reduceLT, VQ, ])); (try simp +contextual (disch := omega) only [Z2, ]); (with_reducible repeat' (first | intro h | refine And.intro (by omega) ?_ | refine exP (by omega) ?_ | apply And.intro)))
  refine callS.eq (w26 t i) ?_
  rw [← hsz]
  ((try refine qI ?_); (repeat ((first | with_reducible refine qU ?_ | simp only [brGen]); try simp (maxSteps := 9^7) +contextual only [↓ S2, S2, ↓reduceIte, reduceNe, reduceEqDiff, reduceCtorEq, reduceLeDiff, reduceAdd, reduceLT, VQ, ])); (try simp +contextual (disch := omega) only [Z2, ]); (with_reducible repeat' (first | intro h | refine And.intro (by omega) ?_ | refine exP (by omega) ?_ | apply And.intro)))
  all_goals try exact oF
  refine callS.eq (q27 t i u hl hx hul hux) ?_
  ((try refine qI ?_); (repeat ((first | with_reducible refine qU ?_ | simp only [brGen]); try simp (maxSteps := 9^7) +contextual only [↓ S2, S2, ↓reduceIte, reduceNe, reduceEqDiff, reduceCtorEq, reduceLeDiff, reduceAdd, reduceLT, VQ, ])); (try simp +contextual (disch := omega) only [Z2, ]); (with_reducible repeat' (first | intro h | refine And.intro (by omega) ?_ | refine exP (by omega) ?_ | apply And.intro)))
  refine callS.eq (q28 t i u hl hx hul hux) ?_
  ((try refine qI ?_); (repeat ((first | with_reducible refine qU ?_ | simp only [brGen]); try simp (maxSteps := 9^7) +contextual only [↓ S2, S2, ↓reduceIte, reduceNe, reduceEqDiff, reduceCtorEq, reduceLeDiff, reduceAdd, reduceLT, VQ, ])); (try simp +contextual (disch := omega) only [Z2, ]); (with_reducible repeat' (first | intro h | refine And.intro (by omega) ?_ | refine exP (by omega) ?_ | apply And.intro)))
  refine callS.eq (w24 _ _) ?_
  rw [all2_refl]
  ((try refine qI ?_); (repeat ((first | with_reducible refine qU ?_ | simp only [brGen]); try simp (maxSteps := 9^7) +contextual only [↓ S2, S2, ↓reduceIte, reduceNe, reduceEqDiff, reduceCtorEq, reduceLeDiff, reduceAdd, reduceLT, VQ, ])); (try simp +contextual (disch := omega) only [Z2, ]); (with_reducible repeat' (first | intro h | refine And.intro (by omega) ?_ | refine exP (by omega) ?_ | apply And.intro)))
  ·refine callS.eq (q28 t i u hl hx hul hux) ?_
   ((try refine qI ?_); (repeat ((first | with_reducible refine qU ?_ | simp only [brGen]); try simp (maxSteps := 9^7) +contextual only [↓ S2, S2, ↓reduceIte, reduceNe, reduceEqDiff, reduceCtorEq, reduceLeDiff, reduceAdd, reduceLT, VQ, ])); (try simp +contextual (disch := omega) only [Z2, ]); (with_reducible repeat' (first | intro h | refine And.intro (by omega) ?_ | refine exP (by omega) ?_ | apply And.intro)))
   refine callS.eq (w24 _ _) ?_
   rw [all2_refl]
   ((try refine qI ?_); (repeat ((first | with_reducible refine qU ?_ | simp only [brGen]); try simp (maxSteps := 9^7) +contextual only [↓ S2, S2, ↓reduceIte, reduceNe, reduceEqDiff, reduceCtorEq, reduceLeDiff, reduceAdd, reduceLT, VQ, ])); (try simp +contextual (disch := omega) only [Z2, ]); (with_reducible repeat' (first | intro h | refine And.intro (by omega) ?_ | refine exP (by omega) ?_ | apply And.intro)))
  have hrl : ((repT t i u).length : Int) = t.length - (subT t i).length + u.length := rep_len hu.2.1 (by omega)
  refine callS.of ((w29 bs (by omega)).frame _) ?_
  rintro _ _ ⟨⟨g, v, e, hg, hv, he, rfl⟩, rfl⟩ _
  obtain ⟨hvl, hvx, _⟩ := bentT_sm hv
  have hv1 := (bentT_goodN hv).2
  have hsm := drG_sm hg
  ((try refine qI ?_); (repeat ((first | with_reducible refine qU ?_ | simp only [brGen]); try simp (maxSteps := 9^7) +contextual only [↓ S2, S2, ↓reduceIte, reduceNe, reduceEqDiff, reduceCtorEq, reduceLeDiff, reduceAdd, reduceLT, VQ, ])); (try simp +contextual (disch := omega) only [Z2, ]); (with_reducible repeat' (first | intro h | refine And.intro (by omega) ?_ | refine exP (by omega) ?_ | apply And.intro)))
  refine callS.eq (w15 g v hsm hvl hvx) ?_
  cases htr : treeOf g v (startS g)
  ·((try refine qI ?_); (repeat ((first | with_reducible refine qU ?_ | simp only [brGen]); try simp (maxSteps := 9^7) +contextual only [↓ S2, S2, ↓reduceIte, reduceNe, reduceEqDiff, reduceCtorEq, reduceLeDiff, reduceAdd, reduceLT, VQ, ])); (try simp +contextual (disch := omega) only [Z2, ]); (with_reducible repeat' (first | intro h | refine And.intro (by omega) ?_ | refine exP (by omega) ?_ | apply And.intro)))
   all_goals try exact oF
   all_goals simp [hrl]
  ·obtain ⟨k, hk, ek⟩ := tmod_rng (a := (at0N bs 3 : Int)) (n := v.length) (by omega) (by omega)
   have hself := repT_self hvl (tree_small htr) hk
   ((try refine qI ?_); (repeat ((first | with_reducible refine qU ?_ | simp only [brGen]); try simp (maxSteps := 9^7) +contextual only [↓ S2, S2, ↓reduceIte, reduceNe, reduceEqDiff, reduceCtorEq, reduceLeDiff, reduceAdd, reduceLT, VQ, ])); (try simp +contextual (disch := omega) only [Z2, ]); (with_reducible repeat' (first | intro h | refine And.intro (by omega) ?_ | refine exP (by omega) ?_ | apply And.intro)))
   refine callS.eq (w30 bs (by omega) 3 (by omega)) ?_
   ((try refine qI ?_); (repeat ((first | with_reducible refine qU ?_ | simp only [brGen]); try simp (maxSteps := 9^7) +contextual only [↓ S2, S2, ↓reduceIte, reduceNe, reduceEqDiff, reduceCtorEq, reduceLeDiff, reduceAdd, reduceLT, VQ, ek])); (try simp +contextual (disch := omega) only [Z2, ek]); (with_reducible repeat' (first | intro h | refine And.intro (by omega) ?_ | refine exP (by omega) ?_ | apply And.intro)))
   all_goals try exact oF
   refine callS.eq (q23 v k hvl hvx) ?_
   ((try refine qI ?_); (repeat ((first | with_reducible refine qU ?_ | simp only [brGen]); try simp (maxSteps := 9^7) +contextual only [↓ S2, S2, ↓reduceIte, reduceNe, reduceEqDiff, reduceCtorEq, reduceLeDiff, reduceAdd, reduceLT, VQ, ])); (try simp +contextual (disch := omega) only [Z2, ]); (with_reducible repeat' (first | intro h | refine And.intro (by omega) ?_ | refine exP (by omega) ?_ | apply And.intro)))
   refine callS.eq (q27 v k (subT v k) hvl hvx (by have := subT_le v k; omega) (subT_kd hvx)) ?_
   rw [hself]
   ((try refine qI ?_); (repeat ((first | with_reducible refine qU ?_ | simp only [brGen]); try simp (maxSteps := 9^7) +contextual only [↓ S2, S2, ↓reduceIte, reduceNe, reduceEqDiff, reduceCtorEq, reduceLeDiff, reduceAdd, reduceLT, VQ, ])); (try simp +contextual (disch := omega) only [Z2, ]); (with_reducible repeat' (first | intro h | refine And.intro (by omega) ?_ | refine exP (by omega) ?_ | apply And.intro)))
   refine callS.eq (w24 _ _) ?_
   rw [all2_refl]
   ((try refine qI ?_); (repeat ((first | with_reducible refine qU ?_ | simp only [brGen]); try simp (maxSteps := 9^7) +contextual only [↓ S2, S2, ↓reduceIte, reduceNe, reduceEqDiff, reduceCtorEq, reduceLeDiff, reduceAdd, reduceLT, VQ, ])); (try simp +contextual (disch := omega) only [Z2, ]); (with_reducible repeat' (first | intro h | refine And.intro (by omega) ?_ | refine exP (by omega) ?_ | apply And.intro)))
   all_goals try exact oF
   all_goals simp [hrl]
end Go.Proofs.Ytfpjmfjhdaccnaa
