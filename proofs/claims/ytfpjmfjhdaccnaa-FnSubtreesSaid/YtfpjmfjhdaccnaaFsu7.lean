/- The law FnSubtrees returns true whatever the input, and the input reads behind the call as before. No condition. -/
import Derived.Test.YtfpjmfjhdaccnaaFsu2
import Derived.Test.YtfpjmfjhdaccnaaFsu6
set_option linter.unusedSimpArgs false
set_option linter.unusedVariables false
set_option maxHeartbeats 40000000
namespace Go.Proofs.Ytfpjmfjhdaccnaa
open Go.Gh
open Nat (reduceEqDiff reduceLeDiff reduceAdd reduceLT)
open Int (reduceNe)
set_option maxRecDepth 20000
set_option linter.unusedSimpArgs false
set_option linter.unusedVariables false
theorem q25 (t : List Nod) (i : Int) (hl : t.length ≤ 1048576) (hx : ∀ x ∈ t, x.kids.length ≤ 1048576) : Pu 25 [Tr t, I i] (· = Tr (subT t i)) :=
 Pure.bor ((o25 t i hl hx []).mono fun g H' ⟨r, h1, h2⟩ => by
  subst h1; subst h2
  exact bor_Tr hget_new rfl)
theorem q23 (t : List Nod) (i : Int) (hl : t.length ≤ 1048576) (hx : ∀ x ∈ t, x.kids.length ≤ 1048576) : Pu 23 [Tr t, I i] (· = Tr (subT t i)) :=
 Pure.bor ((o23 t i hl hx []).mono fun g H' ⟨r, h1, h2⟩ => by
  subst h1; subst h2
  exact bor_Tr hget_new rfl)
def OwnTI (x : List Nod × Int) (H : GH) (v : GV) (H' : GH) : Prop := ∃ r, v = .tup [.agg [.own r 6 0 x.1.length], I x.2] ∧ H' = (r, 6, x.1.map NdO) :: H
theorem o84 (g : Gram) (t : List Nod) (i k : Int) (hg : smGr g) (hm : mkEnd 1 t ≤ 400) (hi : 0 ≤ i ∧ i < t.length) (hk : 0 ≤ k ∧ k < t.length) (H : GH) :
  Gc 84 [Gr g, Tr t, I i, I k] H (OwnTI (swT g t (min i k).toNat (max i k).toNat) H) := by
 obtain ⟨hl, hx⟩ := mk_sm (n := 1048576) (t := t) (by omega)
 obtain ⟨a, ha⟩ : ∃ a : Nat, min i k = a := ⟨(min i k).toNat, by omega⟩
 obtain ⟨b, hb⟩ : ∃ b : Nat, max i k = b := ⟨(max i k).toNat, by omega⟩
 have hal : a < t.length := by omega
 have hbl : b < t.length := by omega
 have ha2 : (if k < i then k else i) = (a : Int) := by split <;> omega
 have hb2 : (if i < k then k else i) = (b : Int) := by split <;> omega
 have hsl := subLen_le hal
 have hts := treeSize_in hal
 unfold swT
 simp only [ha, hb, Int.toNat_natCast]
 refine gstart mxd i84 rfl (by simp) ?_; simp (maxSteps := 9^7) only [↓ S2, S2, vIte, ↓reduceIte, reduceNe, reduceEqDiff, reduceCtorEq, reduceLeDiff, reduceAdd, reduceLT]
 ((try refine qI ?_); (repeat ((first | with_reducible refine qU ?_ | simp only [brGen]); try simp (maxSteps := 9^7) +contextual only [↓ S2, S2, ↓reduceIte, reduceNe, reduceEqDiff, reduceCtorEq, reduceLeDiff, reduceAdd, reduceLT, VQ, ])); (try simp +contextual (disch := omega) only [Z2, ]); (with_reducible repeat' (first | intro h | refine And.intro (by omega) ?_ | refine exP (by omega) ?_ | apply And.intro)))
 refine callS.eq (w103 i k) ?_
 rw [ha]
 ((try refine qI ?_); (repeat ((first | with_reducible refine qU ?_ | simp only [brGen]); try simp (maxSteps := 9^7) +contextual only [↓ S2, S2, ↓reduceIte, reduceNe, reduceEqDiff, reduceCtorEq, reduceLeDiff, reduceAdd, reduceLT, VQ, ])); (try simp +contextual (disch := omega) only [Z2, ]); (with_reducible repeat' (first | intro h | refine And.intro (by omega) ?_ | refine exP (by omega) ?_ | apply And.intro)))
 refine callS.eq (w89 i k) ?_
 rw [hb]
 ((try refine qI ?_); (repeat ((first | with_reducible refine qU ?_ | simp only [brGen]); try simp (maxSteps := 9^7) +contextual only [↓ S2, S2, ↓reduceIte, reduceNe, reduceEqDiff, reduceCtorEq, reduceLeDiff, reduceAdd, reduceLT, VQ, ])); (try simp +contextual (disch := omega) only [Z2, ]); (with_reducible repeat' (first | intro h | refine And.intro (by omega) ?_ | refine exP (by omega) ?_ | apply And.intro)))
 refine callS.eq (w26 t a) ?_
 rw [hts]
 by_cases h1 : (b : Int) < (a : Int) + subLen t a
 ·have h1' := eq_true h1
  simp only [h1, if_true]
  ((try refine qI ?_); (repeat ((first | with_reducible refine qU ?_ | simp only [brGen]); try simp (maxSteps := 9^7) +contextual only [↓ S2, S2, ↓reduceIte, reduceNe, reduceEqDiff, reduceCtorEq, reduceLeDiff, reduceAdd, reduceLT, VQ, h1', decide_true])); (try simp +contextual (disch := omega) only [Z2, h1', decide_true]); (with_reducible repeat' (first | intro h | refine And.intro (by omega) ?_ | refine exP (by omega) ?_ | apply And.intro)))
  all_goals try exact oF
  refine callS.of (o55 t hl hx _) ?_
  rintro v H' ⟨q, rfl, rfl⟩ -
  ((try refine qI ?_); (repeat ((first | with_reducible refine qU ?_ | simp only [brGen]); try simp (maxSteps := 9^7) +contextual only [↓ S2, S2, ↓reduceIte, reduceNe, reduceEqDiff, reduceCtorEq, reduceLeDiff, reduceAdd, reduceLT, VQ, ])); (try simp +contextual (disch := omega) only [Z2, ]); (with_reducible repeat' (first | intro h | refine And.intro (by omega) ?_ | refine exP (by omega) ?_ | apply And.intro)))
  exact ⟨q, rfl, rfl⟩
 ·have h1' := eq_false h1
  simp only [h1, if_false]
  ((try refine qI ?_); (repeat ((first | with_reducible refine qU ?_ | simp only [brGen]); try simp (maxSteps := 9^7) +contextual only [↓ S2, S2, ↓reduceIte, reduceNe, reduceEqDiff, reduceCtorEq, reduceLeDiff, reduceAdd, reduceLT, VQ, h1', decide_false])); (try simp +contextual (disch := omega) only [Z2, h1', decide_false]); (with_reducible repeat' (first | intro h | refine And.intro (by omega) ?_ | refine exP (by omega) ?_ | apply And.intro)))
  all_goals try exact oF
  refine callS.eq (w21 g t a hg) ?_
  ((try refine qI ?_); (repeat ((first | with_reducible refine qU ?_ | simp only [brGen]); try simp (maxSteps := 9^7) +contextual only [↓ S2, S2, ↓reduceIte, reduceNe, reduceEqDiff, reduceCtorEq, reduceLeDiff, reduceAdd, reduceLT, VQ, ])); (try simp +contextual (disch := omega) only [Z2, ]); (with_reducible repeat' (first | intro h | refine And.intro (by omega) ?_ | refine exP (by omega) ?_ | apply And.intro)))
  refine callS.eq (w21 g t b hg) ?_
  by_cases h2 : symN g t a = symN g t b
  ·have hs1 := mkEnd_subT t a
   have hs2 := mkEnd_subT t b
   have hr1 := mkEnd_repT t b (subT t a)
   obtain ⟨e1, e2⟩ := mk_sm (n := 1048576) (t := subT t a) (by omega)
   obtain ⟨e3, e4⟩ := mk_sm (n := 1048576) (t := subT t b) (by omega)
   obtain ⟨e5, e6⟩ := mk_sm (n := 1048576) (t := repT t b (subT t a)) (by omega)
   have h2' : (chars (symN g t a) = chars (symN g t b)) = True := eq_true (by rw [h2])
   rw [if_pos h2]
   ((try refine qI ?_); (repeat ((first | with_reducible refine qU ?_ | simp only [brGen]); try simp (maxSteps := 9^7) +contextual only [↓ S2, S2, ↓reduceIte, reduceNe, reduceEqDiff, reduceCtorEq, reduceLeDiff, reduceAdd, reduceLT, VQ, h2', decide_true])); (try simp +contextual (disch := omega) only [Z2, h2', decide_true]); (with_reducible repeat' (first | intro h | refine And.intro (by omega) ?_ | refine exP (by omega) ?_ | apply And.intro)))
   refine callS.eq (q25 t a hl hx) ?_
   ((try refine qI ?_); (repeat ((first | with_reducible refine qU ?_ | simp only [brGen]); try simp (maxSteps := 9^7) +contextual only [↓ S2, S2, ↓reduceIte, reduceNe, reduceEqDiff, reduceCtorEq, reduceLeDiff, reduceAdd, reduceLT, VQ, ])); (try simp +contextual (disch := omega) only [Z2, ]); (with_reducible repeat' (first | intro h | refine And.intro (by omega) ?_ | refine exP (by omega) ?_ | apply And.intro)))
   refine callS.eq (q28 t b (subT t a) hl hx e1 e2) ?_
   ((try refine qI ?_); (repeat ((first | with_reducible refine qU ?_ | simp only [brGen]); try simp (maxSteps := 9^7) +contextual only [↓ S2, S2, ↓reduceIte, reduceNe, reduceEqDiff, reduceCtorEq, reduceLeDiff, reduceAdd, reduceLT, VQ, ])); (try simp +contextual (disch := omega) only [Z2, ]); (with_reducible repeat' (first | intro h | refine And.intro (by omega) ?_ | refine exP (by omega) ?_ | apply And.intro)))
   refine callS.eq (q25 t b hl hx) ?_
   ((try refine qI ?_); (repeat ((first | with_reducible refine qU ?_ | simp only [brGen]); try simp (maxSteps := 9^7) +contextual only [↓ S2, S2, ↓reduceIte, reduceNe, reduceEqDiff, reduceCtorEq, reduceLeDiff, reduceAdd, reduceLT, VQ, ])); (try simp +contextual (disch := omega) only [Z2, ]); (with_reducible repeat' (first | intro h | refine And.intro (by omega) ?_ | refine exP (by omega) ?_ | apply And.intro)))
   refine callA.of (o28 (repT t b (subT t a)) a (subT t b) e5 e6 e3 e4 _) (by rintro v H' ⟨r, rfl, rfl⟩; exact ⟨[_], rfl⟩) ?_
   rintro v H' ⟨r, rfl, rfl⟩ -
   ((try refine qI ?_); (repeat ((first | with_reducible refine qU ?_ | simp only [brGen]); try simp (maxSteps := 9^7) +contextual only [↓ S2, S2, ↓reduceIte, reduceNe, reduceEqDiff, reduceCtorEq, reduceLeDiff, reduceAdd, reduceLT, VQ, ])); (try simp +contextual (disch := omega) only [Z2, ]); (with_reducible repeat' (first | intro h | refine And.intro (by omega) ?_ | refine exP (by omega) ?_ | apply And.intro)))
   exact ⟨r, rfl, rfl⟩
  ·have h2c : ¬ chars (symN g t a) = chars (symN g t b) := fun e => h2 (chars_inj.1 e)
   have h2' := eq_false h2c
   rw [if_neg h2]
   ((try refine qI ?_); (repeat ((first | with_reducible refine qU ?_ | simp only [brGen]); try simp (maxSteps := 9^7) +contextual only [↓ S2, S2, ↓reduceIte, reduceNe, reduceEqDiff, reduceCtorEq, reduceLeDiff, reduceAdd, reduceLT, VQ, h2', decide_false])); (try simp +contextual (disch := omega) only [Z2, h2', decide_false]); (with_reducible repeat' (first | intro h | refine And.intro (by omega) ?_ | refine exP (by omega) ?_ | apply And.intro)))
   refine callS.of (o55 t hl hx _) ?_
   rintro v H' ⟨q, rfl, rfl⟩ -
   ((try refine qI ?_); (repeat ((first | with_reducible refine qU ?_ | simp only [brGen]); try simp (maxSteps := 9^7) +contextual only [↓ S2, S2, ↓reduceIte, reduceNe, reduceEqDiff, reduceCtorEq, reduceLeDiff, reduceAdd, reduceLT, VQ, ])); (try simp +contextual (disch := omega) only [Z2, ]); (with_reducible repeat' (first | intro h | refine And.intro (by omega) ?_ | refine exP (by omega) ?_ | apply And.intro)))
   exact ⟨q, rfl, rfl⟩
end Go.Proofs.Ytfpjmfjhdaccnaa
