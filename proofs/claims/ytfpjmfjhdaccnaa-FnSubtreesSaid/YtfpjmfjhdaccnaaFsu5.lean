/- The law FnSubtrees returns true whatever the input, and the input reads behind the call as before. No condition. -/
import Derived.Test.YtfpjmfjhdaccnaaFsu1
set_option linter.unusedSimpArgs false
set_option linter.unusedVariables false
set_option maxHeartbeats 40000000
namespace Go.Proofs.Ytfpjmfjhdaccnaa
open Go.Gh
open Nat (reduceEqDiff reduceLeDiff reduceAdd reduceLT)
open Int (reduceNe)
set_option maxRecDepth 20000
set_option linter.unusedSimpArgs false
set_option linter.unusedVariables false
end Go.Proofs.Ytfpjmfjhdaccnaa
namespace Go.Proofs.Ytfpjmfjhdaccnaa
open Go.Gh
open Nat (reduceEqDiff reduceLeDiff reduceAdd reduceLT)
open Int (reduceNe)
set_option maxRecDepth 20000
set_option linter.unusedSimpArgs false
set_option linter.unusedVariables false
end Go.Proofs.Ytfpjmfjhdaccnaa
namespace Go.Proofs.Ytfpjmfjhdaccnaa
open Go.Gh
open Nat (reduceEqDiff reduceLeDiff reduceAdd reduceLT)
open Int (reduceNe)
set_option maxRecDepth 20000
set_option linter.unusedSimpArgs false
set_option linter.unusedVariables false
theorem w33 (g : Gram) (s : ByteArray) (hg : smGr g) : Pu 33 [Gr g, T s] (· = I (ixOf (fun y : Sym => decide (y.name = s)) g.syms)) := by
 have hl := hg.1
 refine gstart mxd i33 rfl (by simp) ?_; simp (maxSteps := 9^7) only [↓ S2, S2, vIte, ↓reduceIte, reduceNe, reduceEqDiff, reduceCtorEq, reduceLeDiff, reduceAdd, reduceLT]
 ((try refine qI ?_); (repeat ((first | with_reducible refine qU ?_ | simp only [brGen]); try simp (maxSteps := 9^7) +contextual only [↓ S2, S2, ↓reduceIte, reduceNe, reduceEqDiff, reduceCtorEq, reduceLeDiff, reduceAdd, reduceLT, VQ, ])); (try simp +contextual (disch := omega) only [Z2, ]); (with_reducible repeat' (first | intro h | refine And.intro (by omega) ?_ | refine exP (by omega) ?_ | apply And.intro)))
 refine wloop mxd (ι := { i : Nat // i ≤ g.syms.length ∧ ∀ y ∈ g.syms.take i, decide (y.name = s) = false }) (fun i => [(1, T s), (2, .rop 2 (Gr g)), (5, I i.1)]) (fun _ => []) (fun i => g.syms.length - i.1) ⟨0, by simp⟩ (by simp [E2]) rfl ?_
 rintro ⟨i, hi, hn⟩
 rcases nL i g.syms.length with hlt | hge
 ·by_cases he : g.syms[i].name = s
  ·rw [ixOf_hit hlt (by simp [he]) hn]
   ((try refine qI ?_); (repeat ((first | with_reducible refine qU ?_ | simp only [brGen]); try simp (maxSteps := 9^7) +contextual only [↓ S2, S2, ↓reduceIte, reduceNe, reduceEqDiff, reduceCtorEq, reduceLeDiff, reduceAdd, reduceLT, VQ, he])); (try simp +contextual (disch := omega) only [Z2, he]); (with_reducible repeat' (first | intro h | refine And.intro (by omega) ?_ | refine exP (by omega) ?_ | apply And.intro)))
   all_goals try exact oF
  ·((try refine qI ?_); (repeat ((first | with_reducible refine qU ?_ | simp only [brGen]); try simp (maxSteps := 9^7) +contextual only [↓ S2, S2, ↓reduceIte, reduceNe, reduceEqDiff, reduceCtorEq, reduceLeDiff, reduceAdd, reduceLT, VQ, he])); (try simp +contextual (disch := omega) only [Z2, he]); (with_reducible repeat' (first | intro h | refine And.intro (by omega) ?_ | refine exP (by omega) ?_ | apply And.intro)))
   all_goals try exact oF
   exact nx ⟨i + 1, by omega, take_step hlt (by simp [he]) hn⟩ (by simp <;> omega) (by simp [E2]) rfl
 ·obtain rfl : i = g.syms.length := by omega
  rw [List.take_length] at hn
  rw [ixOf_none hn]
  ((try refine qI ?_); (repeat ((first | with_reducible refine qU ?_ | simp only [brGen]); try simp (maxSteps := 9^7) +contextual only [↓ S2, S2, ↓reduceIte, reduceNe, reduceEqDiff, reduceCtorEq, reduceLeDiff, reduceAdd, reduceLT, VQ, ])); (try simp +contextual (disch := omega) only [Z2, ]); (with_reducible repeat' (first | intro h | refine And.intro (by omega) ?_ | refine exP (by omega) ?_ | apply And.intro)))
  all_goals try exact oF
theorem w66 (g : Gram) (s : ByteArray) (out : List Int) (hg : smGr g) (ho : out.length = g.syms.length) : Pu 66 [Gr g, T s, IS out] (· = B (rchS g out s)) := by
 have hl := hg.1
 have hl2 := hg.2.1
 refine gstart mxd i66 rfl (by simp) ?_; simp (maxSteps := 9^7) only [↓ S2, S2, vIte, ↓reduceIte, reduceNe, reduceEqDiff, reduceCtorEq, reduceLeDiff, reduceAdd, reduceLT]
 ((try refine qI ?_); (repeat ((first | with_reducible refine qU ?_ | simp only [brGen]); try simp (maxSteps := 9^7) +contextual only [↓ S2, S2, ↓reduceIte, reduceNe, reduceEqDiff, reduceCtorEq, reduceLeDiff, reduceAdd, reduceLT, VQ, ])); (try simp +contextual (disch := omega) only [Z2, ]); (with_reducible repeat' (first | intro h | refine And.intro (by omega) ?_ | refine exP (by omega) ?_ | apply And.intro)))
 refine wloop mxd (ι := { i : Nat // i ≤ g.rules.length ∧ ∀ r ∈ g.rules.take i, rchR g out s r = false }) (fun i => [(1, T s), (2, IS out), (3, .rop 2 (Gr g)), (7, I i.1)]) (fun _ => []) (fun i => g.rules.length - i.1) ⟨0, by simp⟩ (by simp [E2]) rfl ?_
 rintro ⟨i, hi, hn⟩
 rcases nL i g.rules.length with hlt | hge
 ·have hr := hg.2.2.2 _ (gM hlt)
  have hrl := hr.1
  ((try refine qI ?_); (repeat ((first | with_reducible refine qU ?_ | simp only [brGen]); try simp (maxSteps := 9^7) +contextual only [↓ S2, S2, ↓reduceIte, reduceNe, reduceEqDiff, reduceCtorEq, reduceLeDiff, reduceAdd, reduceLT, VQ, ])); (try simp +contextual (disch := omega) only [Z2, ]); (with_reducible repeat' (first | intro h | refine And.intro (by omega) ?_ | refine exP (by omega) ?_ | apply And.intro)))
  all_goals try exact oF
  have hz : decide (g.rules[i].left = s) = rchP g out s g.rules[i] 0 := by simp [rchP]
  refine wloop mxd (ι := { k : Nat // k ≤ g.rules[i].right.length }) (fun k => [(1, T s), (2, IS out), (3, .rop 2 (Gr g)), (7, I i), (8, .rop 6 (Ru g.rules[i])), (9, B (rchP g out s g.rules[i] k.1)), (10, I k.1)]) (fun _ => []) (fun k => g.rules[i].right.length - k.1) ⟨0, by simp⟩ (by simp [E2, hz]) rfl ?_
  rintro ⟨k, hk⟩
  rcases nL k g.rules[i].right.length with hlt2 | hge2
  ·have hst := rchP_step (g := g) (out := out) (s := s) hlt2
   have hix := ixOf_cases (fun y : Sym => decide (y.name = g.rules[i].right[k])) g.syms
   have hho : hOf g out g.rules[i].right[k] = if ixOf (fun y : Sym => decide (y.name = g.rules[i].right[k])) g.syms < 0 then 0 else out.getD (ixOf (fun y : Sym => decide (y.name = g.rules[i].right[k])) g.syms).toNat 0 := rfl
   ((try refine qI ?_); (repeat ((first | with_reducible refine qU ?_ | simp only [brGen]); try simp (maxSteps := 9^7) +contextual only [↓ S2, S2, ↓reduceIte, reduceNe, reduceEqDiff, reduceCtorEq, reduceLeDiff, reduceAdd, reduceLT, VQ, ])); (try simp +contextual (disch := omega) only [Z2, ]); (with_reducible repeat' (first | intro h | refine And.intro (by omega) ?_ | refine exP (by omega) ?_ | apply And.intro)))
   all_goals try exact oF
   refine callS.eq (w33 g g.rules[i].right[k] hg) ?_
   rcases bC (rchP g out s g.rules[i] k) with hv | hv
   ·rw [hv, Bool.false_and] at hst
    ((try refine qI ?_); (repeat ((first | with_reducible refine qU ?_ | simp only [brGen]); try simp (maxSteps := 9^7) +contextual only [↓ S2, S2, ↓reduceIte, reduceNe, reduceEqDiff, reduceCtorEq, reduceLeDiff, reduceAdd, reduceLT, VQ, hv])); (try simp +contextual (disch := omega) only [Z2, hv]); (with_reducible repeat' (first | intro h | refine And.intro (by omega) ?_ | refine exP (by omega) ?_ | apply And.intro)))
    exact nx ⟨k + 1, by omega⟩ (by simp <;> omega) (by simp [E2, hst]) rfl
   ·rw [hv, Bool.true_and] at hst
    rcases hix with hx | ⟨hx, hx2⟩
    ·rw [hx] at hho ⊢
     rw [if_pos (by omega)] at hho
     rw [hho] at hst
     ((try refine qI ?_); (repeat ((first | with_reducible refine qU ?_ | simp only [brGen]); try simp (maxSteps := 9^7) +contextual only [↓ S2, S2, ↓reduceIte, reduceNe, reduceEqDiff, reduceCtorEq, reduceLeDiff, reduceAdd, reduceLT, VQ, hv, Int.reduceLE, ge_iff_le, decide_false])); (try simp +contextual (disch := omega) only [Z2, hv, Int.reduceLE, ge_iff_le, decide_false]); (with_reducible repeat' (first | intro h | refine And.intro (by omega) ?_ | refine exP (by omega) ?_ | apply And.intro)))
     exact nx ⟨k + 1, by omega⟩ (by simp <;> omega) (by simp [E2, hst]) rfl
    ·obtain ⟨a, ha⟩ : ∃ a : Nat, ixOf (fun y : Sym => decide (y.name = g.rules[i].right[k])) g.syms = a := ⟨(ixOf (fun y : Sym => decide (y.name = g.rules[i].right[k])) g.syms).toNat, by omega⟩
     rw [ha] at hho hx hx2 ⊢
     have ha2 : a < out.length := by omega
     rw [if_neg (by omega), Int.toNat_natCast, getD_lt ha2] at hho
     rw [hho] at hst
     have hmx : max (a : Int) 0 = a := by omega
     ((try refine qI ?_); (repeat ((first | with_reducible refine qU ?_ | simp only [brGen]); try simp (maxSteps := 9^7) +contextual only [↓ S2, S2, ↓reduceIte, reduceNe, reduceEqDiff, reduceCtorEq, reduceLeDiff, reduceAdd, reduceLT, VQ, hv, hx, ge_iff_le, decide_true])); (try simp +contextual (disch := omega) only [Z2, hv, hx, ge_iff_le, decide_true]); (with_reducible repeat' (first | intro h | refine And.intro (by omega) ?_ | refine exP (by omega) ?_ | apply And.intro)))
     refine callS.eq (w89 _ _) ?_
     rw [hmx]
     ((try refine qI ?_); (repeat ((first | with_reducible refine qU ?_ | simp only [brGen]); try simp (maxSteps := 9^7) +contextual only [↓ S2, S2, ↓reduceIte, reduceNe, reduceEqDiff, reduceCtorEq, reduceLeDiff, reduceAdd, reduceLT, VQ, hst])); (try simp +contextual (disch := omega) only [Z2, hst]); (with_reducible repeat' (first | intro h | refine And.intro (by omega) ?_ | refine exP (by omega) ?_ | apply And.intro)))
     all_goals try exact oF
     exact nx ⟨k + 1, by omega⟩ (by simp <;> omega) (by simp [E2, hst]) rfl
  ·obtain rfl : k = g.rules[i].right.length := by omega
   have he := rchP_end g out s g.rules[i]
   rcases bC (rchR g out s g.rules[i]) with hw | hw
   ·rw [he, hw]
    ((try refine qI ?_); (repeat ((first | with_reducible refine qU ?_ | simp only [brGen]); try simp (maxSteps := 9^7) +contextual only [↓ S2, S2, ↓reduceIte, reduceNe, reduceEqDiff, reduceCtorEq, reduceLeDiff, reduceAdd, reduceLT, VQ, ])); (try simp +contextual (disch := omega) only [Z2, ]); (with_reducible repeat' (first | intro h | refine And.intro (by omega) ?_ | refine exP (by omega) ?_ | apply And.intro)))
    all_goals try exact oF
    exact nx ⟨i + 1, by omega, takeP_step hlt hw hn⟩ (by simp <;> omega) (by simp [E2]) rfl
   ·have : rchS g out s = true := any_yes hlt hw
    rw [he, hw, this]
    ((try refine qI ?_); (repeat ((first | with_reducible refine qU ?_ | simp only [brGen]); try simp (maxSteps := 9^7) +contextual only [↓ S2, S2, ↓reduceIte, reduceNe, reduceEqDiff, reduceCtorEq, reduceLeDiff, reduceAdd, reduceLT, VQ, ])); (try simp +contextual (disch := omega) only [Z2, ]); (with_reducible repeat' (first | intro h | refine And.intro (by omega) ?_ | refine exP (by omega) ?_ | apply And.intro)))
    all_goals try exact oF
 ·obtain rfl : i = g.rules.length := by omega
  rw [List.take_length] at hn
  have : rchS g out s = false := any_no hn
  rw [this]
  ((try refine qI ?_); (repeat ((first | with_reducible refine qU ?_ | simp only [brGen]); try simp (maxSteps := 9^7) +contextual only [↓ S2, S2, ↓reduceIte, reduceNe, reduceEqDiff, reduceCtorEq, reduceLeDiff, reduceAdd, reduceLT, VQ, ])); (try simp +contextual (disch := omega) only [Z2, ]); (with_reducible repeat' (first | intro h | refine And.intro (by omega) ?_ | refine exP (by omega) ?_ | apply And.intro)))
  all_goals try exact oF
theorem w34 (g : Gram) (hg : smGr g) (h4 : g.syms.length ≤ 4) : Pu 34 [Gr g] (· = IS (hgts g)) := by
 refine Pure.bor ?_
 refine gstart mxd i34 rfl (by simp) ?_; simp (maxSteps := 9^7) only [↓ S2, S2, vIte, ↓reduceIte, reduceNe, reduceEqDiff, reduceCtorEq, reduceLeDiff, reduceAdd, reduceLT]
 ((try refine qI ?_); (repeat ((first | with_reducible refine qU ?_ | simp only [brGen]); try simp (maxSteps := 9^7) +contextual only [↓ S2, S2, ↓reduceIte, reduceNe, reduceEqDiff, reduceCtorEq, reduceLeDiff, reduceAdd, reduceLT, VQ, ])); (try simp +contextual (disch := omega) only [Z2, ]); (with_reducible repeat' (first | intro h | refine And.intro (by omega) ?_ | refine exP (by omega) ?_ | apply And.intro)))
 all_goals try exact oF
 rename_i r0
 refine ploop mxd (ι := { x : Nat × Nat // x.2 ≤ g.syms.length }) (fun x => [(1, .rop 2 (Gr g)), (3, .own x.1.1 1 0 g.syms.length), (4, I ((x.1.2 : Int) + 1))]) (fun x => [(x.1.1, 1, (hIt g x.1.2).map I)]) (fun x => g.syms.length - x.1.2) ⟨(r0, 0), by simp⟩ (by simp [E2]) (by simp [subH, hget, names, hIt]) ?_
 rintro ⟨⟨q, k⟩, hk⟩ hn0
 dsimp only at hk hn0 ⊢
 have hol := hIt_len g k
 rcases nL k g.syms.length with hlt | hge
 ·((try refine qI ?_); (repeat ((first | with_reducible refine qU ?_ | simp only [brGen]); try simp (maxSteps := 9^7) +contextual only [↓ S2, S2, ↓reduceIte, reduceNe, reduceEqDiff, reduceCtorEq, reduceLeDiff, reduceAdd, reduceLT, VQ, List.length_map, hol])); (try simp +contextual (disch := omega) only [Z2, List.length_map, hol]); (with_reducible repeat' (first | intro h | refine And.intro (by omega) ?_ | refine exP (by omega) ?_ | apply And.intro)))
  all_goals try exact oF
  rename_i q2 hq2 q3
  rw [soT_I hol]
  ((try refine qI ?_); (repeat ((first | with_reducible refine qU ?_ | simp only [brGen]); try simp (maxSteps := 9^7) +contextual only [↓ S2, S2, ↓reduceIte, reduceNe, reduceEqDiff, reduceCtorEq, reduceLeDiff, reduceAdd, reduceLT, VQ, List.length_map, List.length_append, List.length_nil, hol, maxLv])); (try simp +contextual (disch := omega) only [Z2, List.length_map, List.length_append, List.length_nil, hol, maxLv]); (with_reducible repeat' (first | intro h | refine And.intro (by omega) ?_ | refine exP (by omega) ?_ | apply And.intro)))
  all_goals try exact oF
  rename_i r5
  refine ploop mxd (ι := { x : Nat × List Int // x.1 ≤ g.syms.length ∧ nxt g k x.1 x.2 }) (fun x => [(1, .rop 2 (Gr g)), (3, .own q 1 0 g.syms.length), (4, I ((k : Int) + 1)), (5, .own r5 1 0 g.syms.length), (6, I x.1.1)]) (fun x => [(r5, 1, x.1.2.map I), (q, 1, (hIt g k).map I)]) (fun x => g.syms.length - x.1.1) ⟨(0, hIt g k), by omega, nxt_0 g k⟩ (by simp [E2]) (by repeat' (first | exact trivial | (refine And.intro (by simp only [hget_c, *, if_true, if_false]; try rfl) (And.intro (by simp [names_cons, names_nil, *]) ?_)))) ?_
  rintro ⟨⟨i, Y⟩, hi, hY⟩ hn2
  dsimp only at hi hY hn2 ⊢
  (replace hn2 := hn2; simp only [VN] at hn2)
  have hYl := hY.1
  rcases nL i g.syms.length with hlt2 | hge2
  ·have hg1 : (hIt g k).getD i 0 = (hIt g k)[i] := getD_lt (by omega)
   have hg2 : g.syms.getD i symZ = g.syms[i] := getD_lt hlt2
   have hnx : hNext g ((k : Int) + 1) (hIt g k) i = if 0 < (hIt g k)[i] then (hIt g k)[i] else if rchS g (hIt g k) g.syms[i].name = true then (k : Int) + 1 else (hIt g k)[i] := by simp only [hNext, hg1, hg2]
   have hnn := hIt_nn g k _ (gM (show i < (hIt g k).length by omega))
   by_cases hz : (hIt g k)[i] = 0
   ·rw [if_neg (by omega)] at hnx
    ((try refine qI ?_); (repeat ((first | with_reducible refine qU ?_ | simp only [brGen]); try simp (maxSteps := 9^7) +contextual only [↓ S2, S2, ↓reduceIte, reduceNe, reduceEqDiff, reduceCtorEq, reduceLeDiff, reduceAdd, reduceLT, VQ, hn2, hz, List.length_map, hol, hYl, decide_true])); (try simp +contextual (disch := omega) only [Z2, hn2, hz, List.length_map, hol, hYl, decide_true]); (with_reducible repeat' (first | intro h | refine And.intro (by omega) ?_ | refine exP (by omega) ?_ | apply And.intro)))
    all_goals try exact oF
    refine callS.borA (w66 g g.syms[i].name (hIt g k) hg hol) (.cons .refl (.cons .refl (.cons (bor_IS (by simp [hget_c, hn2]) hol) .nil))) rfl ?_
    rcases bC (rchS g (hIt g k) g.syms[i].name) with hv | hv
    ·rw [hv, if_neg (by simp)] at hnx
     ((try refine qI ?_); (repeat ((first | with_reducible refine qU ?_ | simp only [brGen]); try simp (maxSteps := 9^7) +contextual only [↓ S2, S2, ↓reduceIte, reduceNe, reduceEqDiff, reduceCtorEq, reduceLeDiff, reduceAdd, reduceLT, VQ, hv])); (try simp +contextual (disch := omega) only [Z2, hv]); (with_reducible repeat' (first | intro h | refine And.intro (by omega) ?_ | refine exP (by omega) ?_ | apply And.intro)))
     exact px ⟨(i + 1, Y), by omega, nxt_keep hY hlt2 (by rw [hnx, hg1])⟩ (by simp <;> omega) (by simp [E2]) (by repeat' (first | exact trivial | (refine And.intro (by simp only [hget_c, *, if_true, if_false]; try rfl) (And.intro (by simp [names_cons, names_nil, *]) ?_))))
    ·rw [hv, if_pos rfl] at hnx
     ((try refine qI ?_); (repeat ((first | with_reducible refine qU ?_ | simp only [brGen]); try simp (maxSteps := 9^7) +contextual only [↓ S2, S2, ↓reduceIte, reduceNe, reduceEqDiff, reduceCtorEq, reduceLeDiff, reduceAdd, reduceLT, VQ, hn2, hv, List.length_map, hYl])); (try simp +contextual (disch := omega) only [Z2, hn2, hv, List.length_map, hYl]); (with_reducible repeat' (first | intro h | refine And.intro (by omega) ?_ | refine exP (by omega) ?_ | apply And.intro)))
     all_goals try exact oF
     refine px ⟨(i + 1, Y.set i ((k : Int) + 1)), by omega, nxt_set hY hlt2 hnx⟩ (by simp <;> omega) (by simp [E2]) ?_
     show subH _ [(r5, 1, (Y.set i ((k : Int) + 1)).map I), (q, 1, (hIt g k).map I)]
     rw [List.map_set]
     exact (by repeat' (first | exact trivial | (refine And.intro (by simp only [hget_c, *, if_true, if_false]; try rfl) (And.intro (by simp [names_cons, names_nil, *]) ?_))))
   ·rw [if_pos (by omega)] at hnx
    ((try refine qI ?_); (repeat ((first | with_reducible refine qU ?_ | simp only [brGen]); try simp (maxSteps := 9^7) +contextual only [↓ S2, S2, ↓reduceIte, reduceNe, reduceEqDiff, reduceCtorEq, reduceLeDiff, reduceAdd, reduceLT, VQ, hn2, hz, List.length_map, hol, hYl, decide_false])); (try simp +contextual (disch := omega) only [Z2, hn2, hz, List.length_map, hol, hYl, decide_false]); (with_reducible repeat' (first | intro h | refine And.intro (by omega) ?_ | refine exP (by omega) ?_ | apply And.intro)))
    all_goals try exact oF
    exact px ⟨(i + 1, Y), by omega, nxt_keep hY hlt2 (by rw [hnx, hg1])⟩ (by simp <;> omega) (by simp [E2]) (by repeat' (first | exact trivial | (refine And.intro (by simp only [hget_c, *, if_true, if_false]; try rfl) (And.intro (by simp [names_cons, names_nil, *]) ?_))))
  ·obtain rfl : i = g.syms.length := by omega
   have hYe := nxt_n hY
   subst hYe
   ((try refine qI ?_); (repeat ((first | with_reducible refine qU ?_ | simp only [brGen]); try simp (maxSteps := 9^7) +contextual only [↓ S2, S2, ↓reduceIte, reduceNe, reduceEqDiff, reduceCtorEq, reduceLeDiff, reduceAdd, reduceLT, VQ, hn2])); (try simp +contextual (disch := omega) only [Z2, hn2]); (with_reducible repeat' (first | intro h | refine And.intro (by omega) ?_ | refine exP (by omega) ?_ | apply And.intro)))
   all_goals try exact oF
   exact px ⟨(r5, k + 1), by omega⟩ (by simp <;> omega) (by simp [E2]) (by repeat' (first | exact trivial | (refine And.intro (by simp only [hget_c, *, if_true, if_false]; try rfl) (And.intro (by simp [names_cons, names_nil, *]) ?_))))
 ·obtain rfl : k = g.syms.length := by omega
  ((try refine qI ?_); (repeat ((first | with_reducible refine qU ?_ | simp only [brGen]); try simp (maxSteps := 9^7) +contextual only [↓ S2, S2, ↓reduceIte, reduceNe, reduceEqDiff, reduceCtorEq, reduceLeDiff, reduceAdd, reduceLT, VQ, ])); (try simp +contextual (disch := omega) only [Z2, ]); (with_reducible repeat' (first | intro h | refine And.intro (by omega) ?_ | refine exP (by omega) ?_ | apply And.intro)))
  all_goals try exact oF
  exact bor_IS hget_new (hgts_len g)
theorem o49 (xs : List Int) (hx : xs.length ≤ 1048576) (H : GH) : Gc 49 [IS xs] H (fun g H' => ∃ H1, (∃ r, g = .own r 1 0 xs.length ∧ H1 = [(r, 1, xs.map I)]) ∧ H' = H1 ++ H) := by
 have h0 : Gc 49 [IS xs] H (fun g H' => (xs = [] ∧ g = .val (.slice none 0 0) ∧ H' = H) ∨ ∃ r, g = .own r 1 0 xs.length ∧ H' = (r, 1, xs.map I) :: H) := by
  refine gstart mxd i49 rfl (by simp) ?_; simp (maxSteps := 9^7) only [↓ S2, S2, vIte, ↓reduceIte, reduceNe, reduceEqDiff, reduceCtorEq, reduceLeDiff, reduceAdd, reduceLT]
  ((try refine qI ?_); (repeat ((first | with_reducible refine qU ?_ | simp only [brGen]); try simp (maxSteps := 9^7) only [↓ S2, S2, vIte, ↓reduceIte, reduceNe, reduceEqDiff, reduceCtorEq, reduceLeDiff, reduceAdd, reduceLT])); (try simp +contextual (disch := omega) only [Z2]); (with_reducible repeat' (first | intro h | refine And.intro (by omega) ?_ | refine exP (by omega) ?_ | apply And.intro)))
  by_cases hxs : xs = []
  ·subst hxs
   simp only [List.map_nil, List.isEmpty_nil, if_true]
   exact ⟨.inl trivial, fun r hr => ⟨by simp, by simp, fun r hr => .inr ⟨r, rfl, rfl⟩⟩⟩
  ·rw [if_neg (by simpa using hxs)]
   exact fun r hr => ⟨by omega, by omega, fun r hr => .inr ⟨r, rfl, rfl⟩⟩
 refine h0.fr ?_
 rintro g H' (⟨rfl, rfl, rfl⟩ | ⟨r, rfl, rfl⟩)
 ·exact ⟨_, _, FR.trans (FR.addv (r := vname H') (sz := 1) (vname_odd H') (vname_new H')) (FR.sub (Bor.virt (r := vname H') (sz := 1))), _, ⟨vname H', rfl, rfl⟩, rfl⟩
 ·exact ⟨_, _, FR.refl _ _, _, ⟨r, rfl, rfl⟩, rfl⟩
theorem o51 (x : Nod) (b : Int) (hx : x.kids.length ≤ 1048576) (H : GH) : Gc 51 [Nd x, I b] H (fun g H' => ∃ r, g = .agg [I x.id, I (IntKind.i64.wrap (x.parent + b)), I x.place, I x.lit, T x.rule, .own r 1 0 x.kids.length] ∧ H' = (r, 1, (x.kids.map fun k => IntKind.i64.wrap (k + b)).map I) :: H) := by
 have h0 : Gc 51 [Nd x, I b] H (fun g H' => ∃ r r0 e, r ≠ r0 ∧ g = .agg [I x.id, I (IntKind.i64.wrap (x.parent + b)), I x.place, I x.lit, T x.rule, .own r 1 0 x.kids.length] ∧ H' = (r, 1, (x.kids.map fun k => IntKind.i64.wrap (k + b)).map I) :: (r0, 6, e) :: H) := by
  refine gstart mxd i51 rfl (by simp) ?_; simp (maxSteps := 9^7) only [↓ S2, S2, vIte, ↓reduceIte, reduceNe, reduceEqDiff, reduceCtorEq, reduceLeDiff, reduceAdd, reduceLT]
  ((try refine qI ?_); (repeat ((first | with_reducible refine qU ?_ | simp only [brGen]); try simp (maxSteps := 9^7) only [↓ S2, S2, vIte, ↓reduceIte, reduceNe, reduceEqDiff, reduceCtorEq, reduceLeDiff, reduceAdd, reduceLT])); (try simp +contextual (disch := omega) only [Z2]); (with_reducible repeat' (first | intro h | refine And.intro (by omega) ?_ | refine exP (by omega) ?_ | apply And.intro)))
  rename_i r0 _ q0
  refine wloopN mxd (ι := { y : Nat × Nat // y.2 ≤ x.kids.length }) (fun y => [(1, I b), (2, .ptr r0 6 0 0), (4, .raw 6), (5, .own y.1.1 1 0 y.1.2), (6, I y.1.2)]) (fun y => (y.1.1, 1, ((x.kids.take y.1.2).map fun k => IntKind.i64.wrap (k + b)).map I) :: (r0, 6, [.agg [I x.id, I x.parent, I x.place, I x.lit, T x.rule, IS x.kids]]) :: H) (fun y => x.kids.length - y.1.2) ⟨(q0, 0), by simp⟩ (by simp [E2]) rfl ?_
  rintro ⟨⟨q, i⟩, hi⟩ hn
  dsimp only at hi hn ⊢
  have hq : q ≠ r0 := by simp only [names, List.map_cons, List.nodup_cons, List.mem_cons, not_or] at hn; exact hn.1.1
  ((try refine qI ?_); (repeat ((first | with_reducible refine qU ?_ | simp only [brGen]); try simp (maxSteps := 9^7) only [↓ S2, S2, vIte, ↓reduceIte, reduceNe, reduceEqDiff, reduceCtorEq, reduceLeDiff, reduceAdd, reduceLT, hget_old hq, hset_old hq])); (try simp +contextual (disch := omega) only [Z2, hget_old hq, hset_old hq]); (with_reducible repeat' (first | intro h | refine And.intro (by omega) ?_ | refine exP (by omega) ?_ | apply And.intro)))
  ·rename_i q2
   have hneq : q2 ≠ q := ne_of_new h hget_new
   ((try refine qI ?_); (repeat ((first | with_reducible refine qU ?_ | simp only [brGen]); try simp (maxSteps := 9^7) only [↓ S2, S2, vIte, ↓reduceIte, reduceNe, reduceEqDiff, reduceCtorEq, reduceLeDiff, reduceAdd, reduceLT, hget_old hneq, hdel_old hneq, List.length_append, List.length_singleton, List.length_map, List.length_take, List.take_length, maxLv])); (try simp +contextual (disch := omega) only [Z2, hget_old hneq, hdel_old hneq, List.length_append, List.length_singleton, List.length_map, List.length_take, List.take_length, maxLv]); (with_reducible repeat' (first | intro h | refine And.intro (by omega) ?_ | refine exP (by omega) ?_ | apply And.intro)))
   rename_i q3
   have hq3 : q3 ≠ q2 := ne_of_new h hget_new
   refine nxF ⟨(q3, i + 1), by omega⟩ (by simp; omega) (FE.drop (r := q2) (by rw [hget_old hq3, hget_new])) (by simp [E2]) ?_
   rw [hdel_old hq3, hdel_new]
   exact congrArg (fun l => (q3, 1, l) :: _) (takeApp2 I (fun k => IntKind.i64.wrap (k + b)) x.kids i (by assumption))
  ·have : i = x.kids.length := by omega
   subst this
   rw [List.take_length]
   exact ⟨q, r0, _, hq, rfl, rfl⟩
 refine h0.fr ?_
 rintro g H' ⟨r, r0, e, hne, rfl, rfl⟩
 exact ⟨_, _, FR.drop (r := r0) (by rw [hget_old hne, hget_new]), r, rfl, by rw [hdel_old hne, hdel_new]⟩
theorem o25 (t : List Nod) (i : Int) (hl : t.length ≤ 1048576) (hx : ∀ x ∈ t, x.kids.length ≤ 1048576) (H : GH) : Gc 25 [Tr t, I i] H (fun g H' => ∃ r, g = .agg [.own r 6 0 (subT t i).length] ∧ H' = (r, 6, (subT t i).map NdO) :: H) := by
  have h0 : Gc 25 [Tr t, I i] H (fun g H' => ∃ r r0 e, r ≠ r0 ∧ g = .agg [.own r 6 0 (subT t i).length] ∧ H' = (r, 6, (subT t i).map NdO) :: (r0, 1, e) :: H) := by
    refine gstart mxd i25 rfl (by simp) ?_; simp (maxSteps := 9^7) only [↓ S2, S2, vIte, ↓reduceIte, reduceNe, reduceEqDiff, reduceCtorEq, reduceLeDiff, reduceAdd, reduceLT]
    ((try refine qI ?_); (repeat ((first | with_reducible refine qU ?_ | simp only [brGen]); try simp (maxSteps := 9^7) only [↓ S2, S2, vIte, ↓reduceIte, reduceNe, reduceEqDiff, reduceCtorEq, reduceLeDiff, reduceAdd, reduceLT])); (try simp +contextual (disch := omega) only [Z2]); (with_reducible repeat' (first | intro h | refine And.intro (by omega) ?_ | refine exP (by omega) ?_ | apply And.intro)))
    rename_i r0
    refine callS.eq (w26 t i) ?_
    ((try refine qI ?_); (repeat ((first | with_reducible refine qU ?_ | simp only [brGen]); try simp (maxSteps := 9^7) only [↓ S2, S2, vIte, ↓reduceIte, reduceNe, reduceEqDiff, reduceCtorEq, reduceLeDiff, reduceAdd, reduceLT])); (try simp +contextual (disch := omega) only [Z2]); (with_reducible repeat' (first | intro h | refine And.intro (by omega) ?_ | refine exP (by omega) ?_ | apply And.intro)))
    by_cases hi : 0 ≤ i ∧ i < t.length
    · obtain ⟨i, rfl⟩ : ∃ k : Nat, i = k := ⟨i.toNat, by omega⟩
      have hi' : i < t.length := by omega
      have hle := subLen_le hi'
      rw [treeSize_in hi', subT_in hi']
      refine wloopF mxd (ι := { y : Nat × Nat // y.2 ≤ subLen t i }) (fun y => [(1, I i), (2, .rop 1 (Tr t)), (4, .raw 1), (5, .ptr r0 1 0 0), (6, I (subLen t i)), (7, I y.1.2)]) (fun y => (y.1.1, 6, ((List.range y.1.2).map (subK t i)).map NdO) :: (r0, 1, [if y.1.2 = 0 then .agg [.own y.1.1 6 0 y.1.2] else .own y.1.1 6 0 y.1.2]) :: H) (fun y => subLen t i - y.1.2) ⟨(vname ((r0, 1, [.agg [.val (.slice none 0 0)]]) :: H), 0), by simp⟩ (FE.virtF (r := r0) (i := 0) (j := 0) (sz1 := 6) hget_new rfl rfl (vname_odd _) (vname_new _)) (by simp [E2]) ?_ ?_
      · rw [hset_new]; rfl
      rintro ⟨⟨q, k⟩, hk⟩ hn
      dsimp only at hk hn ⊢
      refine gwp_ok mxd ?_
      have hq : q ≠ r0 := by simp only [names, List.map_cons, List.nodup_cons, List.mem_cons, not_or] at hn; exact hn.1.1
      rcases nL k (subLen t i) with hlt | hge
      · have hsh : k = 0 ∨ ¬ k = 0 := by omega
        rcases hsh with hsh | hsh
        all_goals first | simp only [if_pos hsh] at hn ⊢ | simp only [if_neg hsh] at hn ⊢
        all_goals
         ((try refine qI ?_); (repeat ((first | with_reducible refine qU ?_ | simp only [brGen]); try simp (maxSteps := 9^7) only [↓ S2, S2, vIte, ↓reduceIte, reduceNe, reduceEqDiff, reduceCtorEq, reduceLeDiff, reduceAdd, reduceLT, hget_old hq, hset_old hq])); (try simp +contextual (disch := omega) only [Z2, hget_old hq, hset_old hq]); (with_reducible repeat' (first | intro h | refine And.intro (by omega) ?_ | refine exP (by omega) ?_ | apply And.intro)))
        all_goals try exact oF
        all_goals
         refine callS.of (o51 t[i + k] _ (hx _ (gM _)) _) ?_
         rintro g H' ⟨r1, rfl, rfl⟩ hn1
         simp only [names, List.map_cons, List.nodup_cons, List.mem_cons, not_or] at hn1
         ((try refine qI ?_); (repeat ((first | with_reducible refine qU ?_ | simp only [brGen]); try simp (maxSteps := 9^7) only [↓ S2, S2, vIte, ↓reduceIte, reduceNe, reduceEqDiff, reduceCtorEq, reduceLeDiff, reduceAdd, reduceLT, hget_c, hset_c, hdel_c, hn1, hq])); (try simp +contextual (disch := omega) only [Z2, hget_c, hset_c, hdel_c, hn1, hq]); (with_reducible repeat' (first | intro h | refine And.intro (by omega) ?_ | refine exP (by omega) ?_ | apply And.intro)))
        all_goals try exact oF
        all_goals
          rename_i r2 h2
          simp only [names, List.map_cons, List.nodup_cons, List.mem_cons, not_or] at h2
          ((try refine qI ?_); (repeat ((first | with_reducible refine qU ?_ | simp only [brGen]); try simp (maxSteps := 9^7) only [↓ S2, S2, vIte, ↓reduceIte, reduceNe, reduceEqDiff, reduceCtorEq, reduceLeDiff, reduceAdd, reduceLT, hget_c, hset_c, hdel_c, hn1, hq, h2])); (try simp +contextual (disch := omega) only [Z2, hget_c, hset_c, hdel_c, hn1, hq, h2]); (with_reducible repeat' (first | intro h | refine And.intro (by omega) ?_ | refine exP (by omega) ?_ | apply And.intro)))
        all_goals
          rename_i r3
          have h3 := h
          simp only [names, List.map_cons, List.nodup_cons, List.mem_cons, not_or] at h3
          ((try refine qI ?_); (repeat ((first | with_reducible refine qU ?_ | simp only [brGen]); try simp (maxSteps := 9^7) only [↓ S2, S2, vIte, ↓reduceIte, reduceNe, reduceEqDiff, reduceCtorEq, reduceLeDiff, reduceAdd, reduceLT, hget_c, hset_c, hdel_c, hn1, hq, h2, h3, List.length_append, List.length_singleton, List.length_map, List.length_range, List.length_take, maxLv])); (try simp +contextual (disch := omega) only [Z2, hget_c, hset_c, hdel_c, hn1, hq, h2, h3, List.length_append, List.length_singleton, List.length_map, List.length_range, List.length_take, maxLv]); (with_reducible repeat' (first | intro h | refine And.intro (by omega) ?_ | refine exP (by omega) ?_ | apply And.intro)))
        all_goals
          rename_i r4
          have h4 := h
          simp only [names, List.map_cons, List.nodup_cons, List.mem_cons, not_or] at h4
          ((try refine qI ?_); (repeat ((first | with_reducible refine qU ?_ | simp only [brGen]); try simp (maxSteps := 9^7) only [↓ S2, S2, vIte, ↓reduceIte, reduceNe, reduceEqDiff, reduceCtorEq, reduceLeDiff, reduceAdd, reduceLT, hget_c, hset_c, hdel_c, hn1, hq, h2, h3, h4, List.length_append, List.length_singleton, List.length_map, List.length_range, List.length_take, maxLv])); (try simp +contextual (disch := omega) only [Z2, hget_c, hset_c, hdel_c, hn1, hq, h2, h3, h4, List.length_append, List.length_singleton, List.length_map, List.length_range, List.length_take, maxLv]); (with_reducible repeat' (first | intro h | refine And.intro (by omega) ?_ | refine exP (by omega) ?_ | apply And.intro)))
          refine nxF ⟨(r4, k + 1), by omega⟩ (by simp; omega) (FE.trans (FE.drop (r := r3) (by simp only [hget_c, h4, if_true, if_false]; rfl)) (FE.trans (FE.drop (r := r2) (by simp only [hget_c, hdel_c, h4, h3, if_true, if_false]; rfl)) (FE.closeL (r := r4) (r1 := r1) (j := 5) h4.1.2.2.1 (by simp only [hget_c, hdel_c, h4, h3, h2, if_true, if_false]; rfl) rfl (by simp only [hget_c, hdel_c, h4, h3, h2, if_true, if_false]; rfl) (by simp)))) ?_ ?_
          · first
              | (simp [E2]; done)
              | (obtain rfl : k = 0 := by omega
                 simp [E2])
          · simp only [hdel_c, hset_c, h4, h3, h2, hn1, if_true, if_false, List.set]
            have e : t.getD (i + k) ndZ = t[i + k] := getD_lt (by omega)
            rw [tL (by simp), ← range_step, List.map_append]
            rw [if_neg (show ¬ k + 1 = 0 by omega)]
            first
              | (simp only [subK, if_pos hsh, e, rootN, movN, List.map_cons, List.map_nil]; done)
              | (simp only [subK, if_neg hsh, e, rootN, movN, List.map_cons, List.map_nil]; done)
      · have : k = subLen t i := by omega
        subst this
        simp only [if_neg (show ¬ subLen t i = 0 by have := subLen_pos (t := t) (i := i); omega)] at hn ⊢
        ((try refine qI ?_); (repeat ((first | with_reducible refine qU ?_ | simp only [brGen]); try simp (maxSteps := 9^7) only [↓ S2, S2, vIte, ↓reduceIte, reduceNe, reduceEqDiff, reduceCtorEq, reduceLeDiff, reduceAdd, reduceLT, hget_old hq, hset_old hq])); (try simp +contextual (disch := omega) only [Z2, hget_old hq, hset_old hq]); (with_reducible repeat' (first | intro h | refine And.intro (by omega) ?_ | refine exP (by omega) ?_ | apply And.intro)))
        all_goals try exact oF
        exact ⟨q, r0, _, hq, by simp, rfl⟩
    · rw [subT_out hi]
      have hz : treeSize t i = 0 := by simp [treeSize, hi]
      rw [hz]
      refine wloopF mxd (ι := Unit) (fun _ => [(1, I i), (2, .rop 1 (Tr t)), (4, .raw 1), (5, .ptr r0 1 0 0), (6, I 0), (7, I 0)]) (fun _ => (vname ((r0, 1, [.agg [.val (.slice none 0 0)]]) :: H), 6, []) :: (r0, 1, [.agg [.own (vname ((r0, 1, [.agg [.val (.slice none 0 0)]]) :: H)) 6 0 0]]) :: H) (fun _ => 0) () (FE.virtF (r := r0) (i := 0) (j := 0) (sz1 := 6) hget_new rfl rfl (vname_odd _) (vname_new _)) (by simp [E2]) ?_ ?_
      · rw [hset_new]; rfl
      rintro - hn
      have hq : vname ((r0, 1, [.agg [.val (.slice none 0 0)]]) :: H) ≠ r0 := by simp only [names, List.map_cons, List.nodup_cons, List.mem_cons, not_or] at hn; exact hn.1.1
      refine gwp_ok mxd ?_
      ((try refine qI ?_); (repeat ((first | with_reducible refine qU ?_ | simp only [brGen]); try simp (maxSteps := 9^7) only [↓ S2, S2, vIte, ↓reduceIte, reduceNe, reduceEqDiff, reduceCtorEq, reduceLeDiff, reduceAdd, reduceLT, hget_old hq, hset_old hq])); (try simp +contextual (disch := omega) only [Z2, hget_old hq, hset_old hq]); (with_reducible repeat' (first | intro h | refine And.intro (by omega) ?_ | refine exP (by omega) ?_ | apply And.intro)))
      exact ⟨_, r0, _, hq, by simp, rfl⟩
  refine h0.fr ?_
  rintro g H' ⟨r, r0, e, hne, rfl, rfl⟩
  exact ⟨_, _, FR.drop (r := r0) (by rw [hget_old hne, hget_new]), r, rfl, by rw [hdel_old hne, hdel_new]⟩
theorem o23 (t : List Nod) (i : Int) (hl : t.length ≤ 1048576) (hx : ∀ x ∈ t, x.kids.length ≤ 1048576) (H : GH) : Gc 23 [Tr t, I i] H (fun g H' => ∃ r, g = .agg [.own r 6 0 (subT t i).length] ∧ H' = (r, 6, (subT t i).map NdO) :: H) := by
  have h0 : Gc 23 [Tr t, I i] H (fun g H' => ∃ r r0 e, r ≠ r0 ∧ g = .agg [.own r 6 0 (subT t i).length] ∧ H' = (r, 6, (subT t i).map NdO) :: (r0, 1, e) :: H) := by
    refine gstart mxd i23 rfl (by simp) ?_; simp (maxSteps := 9^7) only [↓ S2, S2, vIte, ↓reduceIte, reduceNe, reduceEqDiff, reduceCtorEq, reduceLeDiff, reduceAdd, reduceLT]
    ((try refine qI ?_); (repeat ((first | with_reducible refine qU ?_ | simp only [brGen]); try simp (maxSteps := 9^7) only [↓ S2, S2, vIte, ↓reduceIte, reduceNe, reduceEqDiff, reduceCtorEq, reduceLeDiff, reduceAdd, reduceLT])); (try simp +contextual (disch := omega) only [Z2]); (with_reducible repeat' (first | intro h | refine And.intro (by omega) ?_ | refine exP (by omega) ?_ | apply And.intro)))
    rename_i r0
    refine callS.eq (w18 t i) ?_
    ((try refine qI ?_); (repeat ((first | with_reducible refine qU ?_ | simp only [brGen]); try simp (maxSteps := 9^7) only [↓ S2, S2, vIte, ↓reduceIte, reduceNe, reduceEqDiff, reduceCtorEq, reduceLeDiff, reduceAdd, reduceLT])); (try simp +contextual (disch := omega) only [Z2]); (with_reducible repeat' (first | intro h | refine And.intro (by omega) ?_ | refine exP (by omega) ?_ | apply And.intro)))
    by_cases hi : 0 ≤ i ∧ i < t.length
    · obtain ⟨i, rfl⟩ : ∃ k : Nat, i = k := ⟨i.toNat, by omega⟩
      have hi' : i < t.length := by omega
      have hle := subLen_le hi'
      rw [treeSize_in hi', subT_in hi']
      refine wloopF mxd (ι := { y : Nat × Nat // y.2 ≤ subLen t i }) (fun y => [(1, I i), (2, .rop 1 (Tr t)), (4, .raw 1), (5, .ptr r0 1 0 0), (12, I (subLen t i)), (13, I y.1.2)]) (fun y => (y.1.1, 6, ((List.range y.1.2).map (subK t i)).map NdO) :: (r0, 1, [if y.1.2 = 0 then .agg [.own y.1.1 6 0 y.1.2] else .own y.1.1 6 0 y.1.2]) :: H) (fun y => subLen t i - y.1.2) ⟨(vname ((r0, 1, [.agg [.val (.slice none 0 0)]]) :: H), 0), by simp⟩ (FE.virtF (r := r0) (i := 0) (j := 0) (sz1 := 6) hget_new rfl rfl (vname_odd _) (vname_new _)) (by simp [E2]) ?_ ?_
      · rw [hset_new]; rfl
      rintro ⟨⟨q, k⟩, hk⟩ hn
      dsimp only at hk hn ⊢
      refine gwp_ok mxd ?_
      have hq : q ≠ r0 := by simp only [names, List.map_cons, List.nodup_cons, List.mem_cons, not_or] at hn; exact hn.1.1
      rcases nL k (subLen t i) with hlt | hge
      · have hsh : k = 0 ∨ ¬ k = 0 := by omega
        rcases hsh with hsh | hsh
        all_goals first | simp only [if_pos hsh] at hn ⊢ | simp only [if_neg hsh] at hn ⊢
        all_goals
         ((try refine qI ?_); (repeat ((first | with_reducible refine qU ?_ | simp only [brGen]); try simp (maxSteps := 9^7) only [↓ S2, S2, vIte, ↓reduceIte, reduceNe, reduceEqDiff, reduceCtorEq, reduceLeDiff, reduceAdd, reduceLT, hget_old hq, hset_old hq])); (try simp +contextual (disch := omega) only [Z2, hget_old hq, hset_old hq]); (with_reducible repeat' (first | intro h | refine And.intro (by omega) ?_ | refine exP (by omega) ?_ | apply And.intro)))
        all_goals try exact oF
        all_goals
          rename_i rn
          have hie : ((i : Int) + k).toNat = i + k := by omega
          simp only [hie]
          have hik : i + k < t.length := by omega
          have hxk := hx _ (gM hik)
          obtain ⟨x, hxe⟩ : ∃ x, x = t[i + k] := ⟨_, rfl⟩
          simp only [← hxe] at hxk ⊢
          refine callA.of (o49 _ hxk _) (by rintro g H' ⟨H1, _, rfl⟩; exact ⟨H1, rfl⟩) ?_
          rintro g H' ⟨H1, ⟨rc, rfl, rfl⟩, rfl⟩ hnc
          replace hnc := neH_of hnc
          simp only [List.cons_append, List.nil_append] at hnc ⊢
          (replace hnc := hnc; simp only [VN] at hnc)
          ((try refine qI ?_); (repeat ((first | with_reducible refine qU ?_ | simp only [brGen]); try simp (maxSteps := 9^7) only [↓ S2, S2, vIte, ↓reduceIte, reduceNe, reduceEqDiff, reduceCtorEq, reduceLeDiff, reduceAdd, reduceLT, hget_c, hset_c, hdel_c, hnc])); (try simp +contextual (disch := omega) only [Z2, hget_c, hset_c, hdel_c, hnc]); (with_reducible repeat' (first | intro h | refine And.intro (by omega) ?_ | refine exP (by omega) ?_ | apply And.intro)))
          refine wloop mxd (ι := { c : Nat // c ≤ x.kids.length }) (fun c => [(1, I i), (2, .rop 1 (Tr t)), (4, .raw 1), (5, .ptr r0 1 0 0), (12, I (subLen t i)), (13, I k), (6, I k), (7, .ptr rn 6 0 0), (34, I x.kids.length), (35, I c.1)])
            (fun c => (rc, 1, ((x.kids.take c.1).map (fun y => IntKind.i64.wrap (y - i)) ++ x.kids.drop c.1).map I) :: (rn, 6, [.agg [I x.id, I (IntKind.i64.wrap (x.parent - i)), I x.place, I x.lit, T x.rule, .own rc 1 0 x.kids.length]]) :: (q, 6, ((List.range k).map (subK t i)).map NdO) :: (r0, 1, [_]) :: H) (fun c => x.kids.length - c.1) ⟨0, by omega⟩ (by simp [E2]) rfl ?_
          rintro ⟨c, hc⟩
          have hml : ((x.kids.take c).map (fun y => IntKind.i64.wrap (y - i)) ++ x.kids.drop c).length = x.kids.length := mapm_len
          rcases nL c x.kids.length with hcl | hcl
        all_goals try
          (have hmg := mapm_get (f := fun y => IntKind.i64.wrap (y - i)) hcl (by omega)
           have hms := mapm_set (f := fun y => IntKind.i64.wrap (y - i)) hcl)
        all_goals
          ((try refine qI ?_); (repeat ((first | with_reducible refine qU ?_ | simp only [brGen]); try simp (maxSteps := 9^7) only [↓ S2, S2, vIte, ↓reduceIte, reduceNe, reduceEqDiff, reduceCtorEq, reduceLeDiff, reduceAdd, reduceLT, hget_c, hset_c, hdel_c, hnc, hml, List.getElem_map])); (try simp +contextual (disch := omega) only [Z2, hget_c, hset_c, hdel_c, hnc, hml, List.getElem_map]); (with_reducible repeat' (first | intro h | refine And.intro (by omega) ?_ | refine exP (by omega) ?_ | apply And.intro)))
        all_goals try exact oF
        all_goals try
          (refine nx ⟨c + 1, by omega⟩ (by simp; omega) (by simp [E2]) ?_
           simp only [hmg, ← List.map_set]
           exact congrArg (fun l => (rc, 1, List.map I l) :: _) hms)
        all_goals
          rename_i r3
          obtain rfl : c = x.kids.length := by omega
          have h3 := neH_of h
          (replace h3 := h3; simp only [VN] at h3)
          ((try refine qI ?_); (repeat ((first | with_reducible refine qU ?_ | simp only [brGen]); try simp (maxSteps := 9^7) only [↓ S2, S2, vIte, ↓reduceIte, reduceNe, reduceEqDiff, reduceCtorEq, reduceLeDiff, reduceAdd, reduceLT, hget_c, hset_c, hdel_c, hnc, h3, List.length_append, List.length_singleton, List.length_map, List.length_range, List.length_take, maxLv])); (try simp +contextual (disch := omega) only [Z2, hget_c, hset_c, hdel_c, hnc, h3, List.length_append, List.length_singleton, List.length_map, List.length_range, List.length_take, maxLv]); (with_reducible repeat' (first | intro h | refine And.intro (by omega) ?_ | refine exP (by omega) ?_ | apply And.intro)))
        all_goals
          rename_i r4
          have h4 := neH_of h
          (replace h4 := h4; simp only [VN] at h4)
          ((try refine qI ?_); (repeat ((first | with_reducible refine qU ?_ | simp only [brGen]); try simp (maxSteps := 9^7) only [↓ S2, S2, vIte, ↓reduceIte, reduceNe, reduceEqDiff, reduceCtorEq, reduceLeDiff, reduceAdd, reduceLT, hget_c, hset_c, hdel_c, hnc, h3, h4, List.length_append, List.length_singleton, List.length_map, List.length_range, List.length_take, maxLv])); (try simp +contextual (disch := omega) only [Z2, hget_c, hset_c, hdel_c, hnc, h3, h4, List.length_append, List.length_singleton, List.length_map, List.length_range, List.length_take, maxLv]); (with_reducible repeat' (first | intro h | refine And.intro (by omega) ?_ | refine exP (by omega) ?_ | apply And.intro)))
          refine nxF ⟨(r4, k + 1), by omega⟩ (by simp; omega) (FE.trans (FE.drop (r := r3) (by simp only [hget_c, h4, if_true, if_false]; rfl)) (FE.trans (FE.drop (r := rn) (by simp only [hget_c, hdel_c, hnc, h4, h3, if_true, if_false]; rfl)) (FE.closeL (r := r4) (r1 := rc) (j := 5) h4.1.2.2.1 (by simp only [hget_c, hdel_c, h4, h3, hnc, if_true, if_false]; rfl) rfl (by simp only [hget_c, hdel_c, h4, h3, hnc, if_true, if_false]; rfl) (by simp)))) ?_ ?_
          · first
              | (simp [E2]; done)
              | (obtain rfl : k = 0 := by omega
                 simp [E2])
          · simp only [hdel_c, hset_c, h4, h3, hnc, if_true, if_false, List.set]
            have e : t.getD (i + k) ndZ = t[i + k] := getD_lt (by omega)
            rw [← hxe] at e
            have ek : ((x.kids.take x.kids.length).map (fun y => IntKind.i64.wrap (y - i)) ++ x.kids.drop x.kids.length) = x.kids.map fun y => IntKind.i64.wrap (y + (0 - i)) := by
              rw [List.take_length, List.drop_length, List.append_nil]
              exact List.map_congr_left fun y _ => congrArg _ (by omega)
            have ep : x.parent - i = x.parent + (0 - i) := by omega
            rw [ek, tL (by simp), ← range_step, List.map_append]
            try rw [ep]
            rw [if_neg (show ¬ k + 1 = 0 by omega)]
            first
              | (simp only [subK, if_pos hsh, e, rootN, movN, List.map_cons, List.map_nil]; done)
              | (simp only [subK, if_neg hsh, e, rootN, movN, List.map_cons, List.map_nil]; done)
      · have : k = subLen t i := by omega
        subst this
        simp only [if_neg (show ¬ subLen t i = 0 by have := subLen_pos (t := t) (i := i); omega)] at hn ⊢
        ((try refine qI ?_); (repeat ((first | with_reducible refine qU ?_ | simp only [brGen]); try simp (maxSteps := 9^7) only [↓ S2, S2, vIte, ↓reduceIte, reduceNe, reduceEqDiff, reduceCtorEq, reduceLeDiff, reduceAdd, reduceLT, hget_old hq, hset_old hq])); (try simp +contextual (disch := omega) only [Z2, hget_old hq, hset_old hq]); (with_reducible repeat' (first | intro h | refine And.intro (by omega) ?_ | refine exP (by omega) ?_ | apply And.intro)))
        all_goals try exact oF
        exact ⟨q, r0, _, hq, by simp, rfl⟩
    · rw [subT_out hi]
      have hz : treeSize t i = 0 := by simp [treeSize, hi]
      rw [hz]
      refine wloopF mxd (ι := Unit) (fun _ => [(1, I i), (2, .rop 1 (Tr t)), (4, .raw 1), (5, .ptr r0 1 0 0), (12, I 0), (13, I 0)]) (fun _ => (vname ((r0, 1, [.agg [.val (.slice none 0 0)]]) :: H), 6, []) :: (r0, 1, [.agg [.own (vname ((r0, 1, [.agg [.val (.slice none 0 0)]]) :: H)) 6 0 0]]) :: H) (fun _ => 0) () (FE.virtF (r := r0) (i := 0) (j := 0) (sz1 := 6) hget_new rfl rfl (vname_odd _) (vname_new _)) (by simp [E2]) ?_ ?_
      · rw [hset_new]; rfl
      rintro - hn
      have hq : vname ((r0, 1, [.agg [.val (.slice none 0 0)]]) :: H) ≠ r0 := by simp only [names, List.map_cons, List.nodup_cons, List.mem_cons, not_or] at hn; exact hn.1.1
      refine gwp_ok mxd ?_
      ((try refine qI ?_); (repeat ((first | with_reducible refine qU ?_ | simp only [brGen]); try simp (maxSteps := 9^7) only [↓ S2, S2, vIte, ↓reduceIte, reduceNe, reduceEqDiff, reduceCtorEq, reduceLeDiff, reduceAdd, reduceLT, hget_old hq, hset_old hq])); (try simp +contextual (disch := omega) only [Z2, hget_old hq, hset_old hq]); (with_reducible repeat' (first | intro h | refine And.intro (by omega) ?_ | refine exP (by omega) ?_ | apply And.intro)))
      exact ⟨_, r0, _, hq, by simp, rfl⟩
  refine h0.fr ?_
  rintro g H' ⟨r, r0, e, hne, rfl, rfl⟩
  exact ⟨_, _, FR.drop (r := r0) (by rw [hget_old hne, hget_new]), r, rfl, by rw [hdel_old hne, hdel_new]⟩
theorem w78 (k e b : Int) : Pu 78 [I k, I e, I b] (· = I (shK e b k)) := by
 refine gstart mxd i78 rfl (by simp) ?_; simp (maxSteps := 9^7) only [↓ S2, S2, vIte, ↓reduceIte, reduceNe, reduceEqDiff, reduceCtorEq, reduceLeDiff, reduceAdd, reduceLT]
 ((try refine qI ?_); (repeat ((first | with_reducible refine qU ?_ | simp only [brGen]); try simp (maxSteps := 9^7) only [↓ S2, S2, vIte, ↓reduceIte, reduceNe, reduceEqDiff, reduceCtorEq, reduceLeDiff, reduceAdd, reduceLT])); (try simp +contextual (disch := omega) only [Z2]); (with_reducible repeat' (first | intro h | refine And.intro (by omega) ?_ | refine exP (by omega) ?_ | apply And.intro)))
 ·rw [shK, if_pos (by omega)]
 ·rw [shK, if_neg (by omega)]
theorem o56 (x : Nod) (e b : Int) (hx : x.kids.length ≤ 1048576) (H : GH) : Gc 56 [Nd x, I e, I b] H (fun g H' => ∃ H1, (∃ r, g = .agg [I x.id, I (shK e b x.parent), I x.place, I x.lit, T x.rule, .own r 1 0 x.kids.length] ∧ H1 = [(r, 1, (x.kids.map (shK e b)).map I)]) ∧ H' = H1 ++ H) := by
 have h0 : Gc 56 [Nd x, I e, I b] H (fun g H' => ∃ r r0 u, r ≠ r0 ∧ g = .agg [I x.id, I (shK e b x.parent), I x.place, I x.lit, T x.rule, .own r 1 0 x.kids.length] ∧ H' = (r, 1, (x.kids.map (shK e b)).map I) :: (r0, 6, u) :: H) := by
  refine gstart mxd i56 rfl (by simp) ?_; simp (maxSteps := 9^7) only [↓ S2, S2, vIte, ↓reduceIte, reduceNe, reduceEqDiff, reduceCtorEq, reduceLeDiff, reduceAdd, reduceLT]
  ((try refine qI ?_); (repeat ((first | with_reducible refine qU ?_ | simp only [brGen]); try simp (maxSteps := 9^7) only [↓ S2, S2, vIte, ↓reduceIte, reduceNe, reduceEqDiff, reduceCtorEq, reduceLeDiff, reduceAdd, reduceLT])); (try simp +contextual (disch := omega) only [Z2]); (with_reducible repeat' (first | intro h | refine And.intro (by omega) ?_ | refine exP (by omega) ?_ | apply And.intro)))
  rename_i r0 _ q0
  refine wloopN mxd (ι := { y : Nat × Nat // y.2 ≤ x.kids.length }) (fun y => [(1, I e), (2, I b), (3, .ptr r0 6 0 0), (6, .raw 6), (7, .own y.1.1 1 0 y.1.2), (8, I y.1.2)]) (fun y => (y.1.1, 1, ((x.kids.take y.1.2).map (shK e b)).map I) :: (r0, 6, [.agg [I x.id, I x.parent, I x.place, I x.lit, T x.rule, IS x.kids]]) :: H) (fun y => x.kids.length - y.1.2) ⟨(q0, 0), by simp⟩ (by simp [E2]) rfl ?_
  rintro ⟨⟨q, i⟩, hi⟩ hn
  dsimp only at hi hn ⊢
  have hq : q ≠ r0 := by simp only [names, List.map_cons, List.nodup_cons, List.mem_cons, not_or] at hn; exact hn.1.1
  ((try refine qI ?_); (repeat ((first | with_reducible refine qU ?_ | simp only [brGen]); try simp (maxSteps := 9^7) only [↓ S2, S2, vIte, ↓reduceIte, reduceNe, reduceEqDiff, reduceCtorEq, reduceLeDiff, reduceAdd, reduceLT, hget_old hq, hset_old hq])); (try simp +contextual (disch := omega) only [Z2, hget_old hq, hset_old hq]); (with_reducible repeat' (first | intro h | refine And.intro (by omega) ?_ | refine exP (by omega) ?_ | apply And.intro)))
  ·refine callS.eq (w78 _ _ _) ?_
   ((try refine qI ?_); (repeat ((first | with_reducible refine qU ?_ | simp only [brGen]); try simp (maxSteps := 9^7) only [↓ S2, S2, vIte, ↓reduceIte, reduceNe, reduceEqDiff, reduceCtorEq, reduceLeDiff, reduceAdd, reduceLT, hget_old hq, hset_old hq])); (try simp +contextual (disch := omega) only [Z2, hget_old hq, hset_old hq]); (with_reducible repeat' (first | intro h | refine And.intro (by omega) ?_ | refine exP (by omega) ?_ | apply And.intro)))
   rename_i q2
   have hneq : q2 ≠ q := ne_of_new h hget_new
   ((try refine qI ?_); (repeat ((first | with_reducible refine qU ?_ | simp only [brGen]); try simp (maxSteps := 9^7) only [↓ S2, S2, vIte, ↓reduceIte, reduceNe, reduceEqDiff, reduceCtorEq, reduceLeDiff, reduceAdd, reduceLT, hget_old hneq, hdel_old hneq, List.length_append, List.length_singleton, List.length_map, List.length_take, List.take_length, maxLv])); (try simp +contextual (disch := omega) only [Z2, hget_old hneq, hdel_old hneq, List.length_append, List.length_singleton, List.length_map, List.length_take, List.take_length, maxLv]); (with_reducible repeat' (first | intro h | refine And.intro (by omega) ?_ | refine exP (by omega) ?_ | apply And.intro)))
   rename_i q3
   have hq3 : q3 ≠ q2 := ne_of_new h hget_new
   refine nxF ⟨(q3, i + 1), by omega⟩ (by simp; omega) (FE.drop (r := q2) (by rw [hget_old hq3, hget_new])) (by simp [E2]) ?_
   rw [hdel_old hq3, hdel_new]
   exact congrArg (fun l => (q3, 1, l) :: _) (takeApp2 I (shK e b) x.kids i (by assumption))
  ·have : i = x.kids.length := by omega
   subst this
   refine callS.eq (w78 _ _ _) ?_
   ((try refine qI ?_); (repeat ((first | with_reducible refine qU ?_ | simp only [brGen]); try simp (maxSteps := 9^7) only [↓ S2, S2, vIte, ↓reduceIte, reduceNe, reduceEqDiff, reduceCtorEq, reduceLeDiff, reduceAdd, reduceLT, hget_old hq, hset_old hq])); (try simp +contextual (disch := omega) only [Z2, hget_old hq, hset_old hq]); (with_reducible repeat' (first | intro h | refine And.intro (by omega) ?_ | refine exP (by omega) ?_ | apply And.intro)))
   rw [List.take_length]
   exact ⟨q, r0, _, hq, rfl, rfl⟩
 refine h0.fr ?_
 rintro g H' ⟨r, r0, u, hne, rfl, rfl⟩
 exact ⟨_, _, FR.drop (r := r0) (by rw [hget_old hne, hget_new]), _, ⟨r, rfl, rfl⟩, by rw [hdel_old hne, hdel_new]; rfl⟩
theorem o55 (t : List Nod) (hl : t.length ≤ 1048576) (hx : ∀ x ∈ t, x.kids.length ≤ 1048576) (H : GH) : Gc 55 [Tr t] H (fun g H' => ∃ r, g = .agg [.own r 6 0 t.length] ∧ H' = (r, 6, t.map NdO) :: H) := by
 have h0 : Gc 55 [Tr t] H (fun g H' => ∃ r r0 e, r ≠ r0 ∧ g = .agg [.own r 6 0 t.length] ∧ H' = (r, 6, t.map NdO) :: (r0, 1, e) :: H) := by
  refine gstart mxd i55 rfl (by simp) ?_; simp (maxSteps := 9^7) only [↓ S2, S2, vIte, ↓reduceIte, reduceNe, reduceEqDiff, reduceCtorEq, reduceLeDiff, reduceAdd, reduceLT]
  ((try refine qI ?_); (repeat ((first | with_reducible refine qU ?_ | simp only [brGen]); try simp (maxSteps := 9^7) only [↓ S2, S2, vIte, ↓reduceIte, reduceNe, reduceEqDiff, reduceCtorEq, reduceLeDiff, reduceAdd, reduceLT])); (try simp +contextual (disch := omega) only [Z2]); (with_reducible repeat' (first | intro h | refine And.intro (by omega) ?_ | refine exP (by omega) ?_ | apply And.intro)))
  rename_i r0
  refine wloopF mxd (ι := { y : Nat × Nat // y.2 ≤ t.length }) (fun y => [(1, .rop 1 (Tr t)), (2, .raw 1), (3, .ptr r0 1 0 0), (4, I y.1.2)]) (fun y => (y.1.1, 6, (t.take y.1.2).map NdO) :: (r0, 1, [.own y.1.1 6 0 y.1.2]) :: H) (fun y => t.length - y.1.2) ⟨(vname ((r0, 1, [.agg [.val (.slice none 0 0)]]) :: H), 0), by simp⟩ (FE.virtU1 (sz1 := 6) (vname_odd _) (vname_new _)) (by simp [E2]) rfl ?_
  rintro ⟨⟨q, k⟩, hk⟩ hn
  dsimp only at hk hn ⊢
  refine gwp_ok mxd ?_
  replace hn := neH_of hn
  (replace hn := hn; simp only [VN] at hn)
  rcases nL k t.length with hlt | hge
  ·have hxk := hx _ (gM hlt)
   ((try refine qI ?_); (repeat ((first | with_reducible refine qU ?_ | simp only [brGen]); try simp (maxSteps := 9^7) +contextual only [↓ S2, S2, ↓reduceIte, reduceNe, reduceEqDiff, reduceCtorEq, reduceLeDiff, reduceAdd, reduceLT, VQ, hn, List.length_append, List.length_singleton, List.length_map, List.length_take, maxLv])); (try simp +contextual (disch := omega) only [Z2, hn, List.length_append, List.length_singleton, List.length_map, List.length_take, maxLv]); (with_reducible repeat' (first | intro h | refine And.intro (by omega) ?_ | refine exP (by omega) ?_ | apply And.intro)))
   ·rename_i rn _ _ _ rc _ r3 _ r4
    refine nxF ⟨(r4, k + 1), by omega⟩ (by simp; omega) (FE.trans (FE.perm (H := [_, _, _, _, _]) (L := [(r4, _), (rc, _), (r0, _)]) (by repeat' (first | exact trivial | (refine And.intro (by simp only [hget_c, *, if_true, if_false]; try rfl) (And.intro (by simp [names_cons, names_nil, *]) ?_))))) (FE.closeL2 (j := 5) (by simp [*]) rfl (by simp))) (by simp [E2]) ?_
    rw [tL (by simp; omega)]
    exact congrArg (fun l => (r4, 6, l) :: _) (take_snocM NdO hlt)
   all_goals (exfalso; omega)
  ·obtain rfl : k = t.length := by omega
   ((try refine qI ?_); (repeat ((first | with_reducible refine qU ?_ | simp only [brGen]); try simp (maxSteps := 9^7) +contextual only [↓ S2, S2, ↓reduceIte, reduceNe, reduceEqDiff, reduceCtorEq, reduceLeDiff, reduceAdd, reduceLT, VQ, hn, List.length_append, List.length_singleton, List.length_map, List.length_take, maxLv])); (try simp +contextual (disch := omega) only [Z2, hn, List.length_append, List.length_singleton, List.length_map, List.length_take, maxLv]); (with_reducible repeat' (first | intro h | refine And.intro (by omega) ?_ | refine exP (by omega) ?_ | apply And.intro)))
   exact ⟨q, r0, _, hn.1.1, rfl, by rw [List.take_length]⟩
 refine h0.fr ?_
 rintro g H' ⟨r, r0, e, hne, rfl, rfl⟩
 exact ⟨_, _, FR.drop (r := r0) (by rw [hget_old hne, hget_new]), r, rfl, by rw [hdel_old hne, hdel_new]⟩
theorem o52 (t : List Nod) (hl : t.length ≤ 1048576) (hx : ∀ x ∈ t, x.kids.length ≤ 1048576) (H : GH) : Gc 52 [Tr t] H (fun g H' => ∃ r, g = .agg [.own r 6 0 t.length] ∧ H' = (r, 6, t.map NdO) :: H) := by
 have h0 : Gc 52 [Tr t] H (fun g H' => ∃ r r0 e, r ≠ r0 ∧ g = .agg [.own r 6 0 t.length] ∧ H' = (r, 6, t.map NdO) :: (r0, 1, e) :: H) := by
  refine gstart mxd i52 rfl (by simp) ?_; simp (maxSteps := 9^7) only [↓ S2, S2, vIte, ↓reduceIte, reduceNe, reduceEqDiff, reduceCtorEq, reduceLeDiff, reduceAdd, reduceLT]
  ((try refine qI ?_); (repeat ((first | with_reducible refine qU ?_ | simp only [brGen]); try simp (maxSteps := 9^7) only [↓ S2, S2, vIte, ↓reduceIte, reduceNe, reduceEqDiff, reduceCtorEq, reduceLeDiff, reduceAdd, reduceLT])); (try simp +contextual (disch := omega) only [Z2]); (with_reducible repeat' (first | intro h | refine And.intro (by omega) ?_ | refine exP (by omega) ?_ | apply And.intro)))
  rename_i r0
  refine wloopF mxd (ι := { y : Nat × Nat // y.2 ≤ t.length }) (fun y => [(1, .rop 1 (Tr t)), (2, .raw 1), (3, .ptr r0 1 0 0), (8, NdS t), (9, I t.length), (10, I y.1.2)]) (fun y => (y.1.1, 6, (t.take y.1.2).map NdO) :: (r0, 1, [.own y.1.1 6 0 y.1.2]) :: H) (fun y => t.length - y.1.2) ⟨(vname ((r0, 1, [.agg [.val (.slice none 0 0)]]) :: H), 0), by simp⟩ (FE.virtU1 (sz1 := 6) (vname_odd _) (vname_new _)) (by simp [E2]) rfl ?_
  rintro ⟨⟨q, k⟩, hk⟩ hn
  dsimp only at hk hn ⊢
  refine gwp_ok mxd ?_
  replace hn := neH_of hn
  (replace hn := hn; simp only [VN] at hn)
  rcases nL k t.length with hlt | hge
  ·have hxk := hx _ (gM hlt)
   ((try refine qI ?_); (repeat ((first | with_reducible refine qU ?_ | simp only [brGen]); try simp (maxSteps := 9^7) +contextual only [↓ S2, S2, ↓reduceIte, reduceNe, reduceEqDiff, reduceCtorEq, reduceLeDiff, reduceAdd, reduceLT, VQ, hn, List.length_append, List.length_singleton, List.length_map, List.length_take, maxLv])); (try simp +contextual (disch := omega) only [Z2, hn, List.length_append, List.length_singleton, List.length_map, List.length_take, maxLv]); (with_reducible repeat' (first | intro h | refine And.intro (by omega) ?_ | refine exP (by omega) ?_ | apply And.intro)))
   ·refine callS.of (o49 _ hxk _) ?_
    rintro g H' ⟨H1, ⟨rc, rfl, rfl⟩, rfl⟩ hnc
    replace hnc := neH_of hnc
    simp only [List.cons_append, List.nil_append] at hnc ⊢
    (replace hnc := hnc; simp only [VN] at hnc)
    ((try refine qI ?_); (repeat ((first | with_reducible refine qU ?_ | simp only [brGen]); try simp (maxSteps := 9^7) +contextual only [↓ S2, S2, ↓reduceIte, reduceNe, reduceEqDiff, reduceCtorEq, reduceLeDiff, reduceAdd, reduceLT, VQ, hn, hnc, List.length_append, List.length_singleton, List.length_map, List.length_take, maxLv])); (try simp +contextual (disch := omega) only [Z2, hn, hnc, List.length_append, List.length_singleton, List.length_map, List.length_take, maxLv]); (with_reducible repeat' (first | intro h | refine And.intro (by omega) ?_ | refine exP (by omega) ?_ | apply And.intro)))
    rename_i rn _ r3 _ r4
    refine nxF ⟨(r4, k + 1), by omega⟩ (by simp; omega) (FE.trans (FE.perm (H := [_, _, _, _, _]) (L := [(r4, _), (rc, _), (r0, _)]) (by repeat' (first | exact trivial | (refine And.intro (by simp only [hget_c, *, if_true, if_false]; try rfl) (And.intro (by simp [names_cons, names_nil, *]) ?_))))) (FE.closeL2 (j := 5) (by simp [*]) rfl (by simp))) (by simp [E2]) ?_
    rw [tL (by simp; omega)]
    exact congrArg (fun l => (r4, 6, l) :: _) (take_snocM NdO hlt)
   all_goals (exfalso; omega)
  ·obtain rfl : k = t.length := by omega
   ((try refine qI ?_); (repeat ((first | with_reducible refine qU ?_ | simp only [brGen]); try simp (maxSteps := 9^7) +contextual only [↓ S2, S2, ↓reduceIte, reduceNe, reduceEqDiff, reduceCtorEq, reduceLeDiff, reduceAdd, reduceLT, VQ, hn, List.length_append, List.length_singleton, List.length_map, List.length_take, maxLv])); (try simp +contextual (disch := omega) only [Z2, hn, List.length_append, List.length_singleton, List.length_map, List.length_take, maxLv]); (with_reducible repeat' (first | intro h | refine And.intro (by omega) ?_ | refine exP (by omega) ?_ | apply And.intro)))
   exact ⟨q, r0, _, hn.1.1, rfl, by rw [List.take_length]⟩
 refine h0.fr ?_
 rintro g H' ⟨r, r0, e, hne, rfl, rfl⟩
 exact ⟨_, _, FR.drop (r := r0) (by rw [hget_old hne, hget_new]), r, rfl, by rw [hdel_old hne, hdel_new]⟩
theorem o28 (t : List Nod) (i : Int) (sub : List Nod) (hl : t.length ≤ 1048576) (hx : ∀ x ∈ t, x.kids.length ≤ 1048576) (hsl : sub.length ≤ 1048576) (hsx : ∀ x ∈ sub, x.kids.length ≤ 1048576) (H : GH) : Gc 28 [Tr t, I i, Tr sub] H (fun g H' => ∃ r, g = .agg [.own r 6 0 (repT t i sub).length] ∧ H' = (r, 6, (repT t i sub).map NdO) :: H) := by
 have h0 : Gc 28 [Tr t, I i, Tr sub] H (fun g H' => ∃ r, g = .agg [.own r 6 0 (repT t i sub).length] ∧ (H' = (r, 6, (repT t i sub).map NdO) :: H ∨ ∃ r0 e, r ≠ r0 ∧ H' = (r, 6, (repT t i sub).map NdO) :: (r0, 1, e) :: H)) := by
  refine gstart mxd i28 rfl (by simp) ?_; simp (maxSteps := 9^7) only [↓ S2, S2, vIte, ↓reduceIte, reduceNe, reduceEqDiff, reduceCtorEq, reduceLeDiff, reduceAdd, reduceLT]
  refine callS.eq (w26 t i) ?_
  by_cases hc : 0 ≤ i ∧ i < t.length ∧ sub ≠ []
  ·obtain ⟨i, rfl⟩ : ∃ k : Nat, i = k := ⟨i.toNat, by omega⟩
   have hi : i < t.length := by omega
   have hle := subLen_le hi
   have hpos := subLen_pos (t := t) (i := i)
   have hsn : 0 < sub.length := List.length_pos_iff.2 hc.2.2
   have hn0 : ¬ ((subLen t i : Int) = 0) := by omega
   have hs0 : ¬ ((sub.length : Int) = 0) := by omega
   obtain ⟨F, hF⟩ : ∃ F, outN (i + subLen t i) (sub.length - subLen t i) = F := ⟨_, rfl⟩
   have hre : repT t i sub = (t.take i).map F ++ (putT sub t[i] i ++ (t.drop (i + subLen t i)).map F) := by
    simp only [repT, if_pos hc, hF, Int.toNat_natCast]
    rw [getD_lt hi]
   rw [hre]
   clear hre
   rw [treeSize_in hi]
   generalize hnn : subLen t i = n at *
   ((try refine qI ?_); (repeat ((first | with_reducible refine qU ?_ | simp only [brGen]); try simp (maxSteps := 9^7) +contextual only [↓ S2, S2, ↓reduceIte, reduceNe, reduceEqDiff, reduceCtorEq, reduceLeDiff, reduceAdd, reduceLT, VQ, hn0, hs0])); (try simp +contextual (disch := omega) only [Z2, hn0, hs0]); (with_reducible repeat' (first | intro h | refine And.intro (by omega) ?_ | refine exP (by omega) ?_ | apply And.intro)))
   rename_i r0
   refine wloopF mxd (ι := { y : Nat × Nat // y.2 ≤ i }) (fun y => [(1, I i), (3, .rop 1 (Tr t)), (5, .rop 1 (Tr sub)), (6, .raw 1), (7, I n), (8, .ptr r0 1 0 0), (9, I (sub.length - n)), (10, I y.1.2)]) (fun y => (y.1.1, 6, ((t.take y.1.2).map F).map NdO) :: (r0, 1, [.own y.1.1 6 0 y.1.2]) :: H) (fun y => i - y.1.2) ⟨(vname ((r0, 1, [.agg [.val (.slice none 0 0)]]) :: H), 0), by simp⟩ (FE.virtU1 (sz1 := 6) (vname_odd _) (vname_new _)) (by simp [E2]) rfl ?_
   rintro ⟨⟨q, k⟩, hk⟩ hn
   dsimp only at hk hn ⊢
   refine gwp_ok mxd ?_
   replace hn := neH_of hn
   (replace hn := hn; simp only [VN] at hn)
   rcases nL k i with hlt | hge
   ·have hkt : k < t.length := by omega
    have hxk := hx _ (gM hkt)
    ((try refine qI ?_); (repeat ((first | with_reducible refine qU ?_ | simp only [brGen]); try simp (maxSteps := 9^7) +contextual only [↓ S2, S2, ↓reduceIte, reduceNe, reduceEqDiff, reduceCtorEq, reduceLeDiff, reduceAdd, reduceLT, VQ, hn, List.length_append, List.length_singleton, List.length_map, List.length_take, maxLv])); (try simp +contextual (disch := omega) only [Z2, hn, List.length_append, List.length_singleton, List.length_map, List.length_take, maxLv]); (with_reducible repeat' (first | intro h | refine And.intro (by omega) ?_ | refine exP (by omega) ?_ | apply And.intro)))
    ·refine callA.of (o56 t[k] _ _ hxk _) (by rintro g H' ⟨H1, _, rfl⟩; exact ⟨H1, rfl⟩) ?_
     rintro g H' ⟨H1, ⟨rc, rfl, rfl⟩, rfl⟩ hnc
     replace hnc := neH_of hnc
     simp only [List.cons_append, List.nil_append] at hnc ⊢
     (replace hnc := hnc; simp only [VN] at hnc)
     ((try refine qI ?_); (repeat ((first | with_reducible refine qU ?_ | simp only [brGen]); try simp (maxSteps := 9^7) +contextual only [↓ S2, S2, ↓reduceIte, reduceNe, reduceEqDiff, reduceCtorEq, reduceLeDiff, reduceAdd, reduceLT, VQ, hn, hnc, List.length_append, List.length_singleton, List.length_map, List.length_take, maxLv])); (try simp +contextual (disch := omega) only [Z2, hn, hnc, List.length_append, List.length_singleton, List.length_map, List.length_take, maxLv]); (with_reducible repeat' (first | intro h | refine And.intro (by omega) ?_ | refine exP (by omega) ?_ | apply And.intro)))
     ·rename_i r3 _ r4
      refine nxF ⟨(r4, k + 1), by omega⟩ (by simp; omega) (FE.trans (FE.perm (H := [_, _, _, _]) (L := [(r4, _), (rc, _), (r0, _)]) (by repeat' (first | exact trivial | (refine And.intro (by simp only [hget_c, *, if_true, if_false]; try rfl) (And.intro (by simp [names_cons, names_nil, *]) ?_))))) (FE.closeL2 (j := 5) (by simp [*]) rfl (by simp))) (by simp [E2]) ?_
      rw [tL (by simp; omega), ← take_snocM F hkt, List.map_append, ← hF]
      rfl
    all_goals (exfalso; omega)
   ·have hki : i = k := by omega
    subst hki
    ((try refine qI ?_); (repeat ((first | with_reducible refine qU ?_ | simp only [brGen]); try simp (maxSteps := 9^7) +contextual only [↓ S2, S2, ↓reduceIte, reduceNe, reduceEqDiff, reduceCtorEq, reduceLeDiff, reduceAdd, reduceLT, VQ, hn, List.length_append, List.length_singleton, List.length_map, List.length_take, maxLv])); (try simp +contextual (disch := omega) only [Z2, hn, List.length_append, List.length_singleton, List.length_map, List.length_take, maxLv]); (with_reducible repeat' (first | intro h | refine And.intro (by omega) ?_ | refine exP (by omega) ?_ | apply And.intro)))
    all_goals try exact oF
    have hpl : (putT sub t[i] i).length = sub.length := putT_len _ _ _
    have hil : (t.take i).length = i := by simp; omega
    refine wloopN mxd (ι := { y : Nat × Nat // y.2 ≤ sub.length }) (fun y => [(1, I i), (3, .rop 1 (Tr t)), (5, .rop 1 (Tr sub)), (6, .raw 1), (7, I n), (8, .ptr r0 1 0 0), (9, I (sub.length - n)), (11, I y.1.2)]) (fun y => (y.1.1, 6, ((t.take i).map F ++ (putT sub t[i] i).take y.1.2).map NdO) :: (r0, 1, [.own y.1.1 6 0 (i + y.1.2)]) :: H) (fun y => sub.length - y.1.2) ⟨(q, 0), by simp⟩ (by simp [E2]) (by simp) ?_
    rintro ⟨⟨q2, k⟩, hk2⟩ hn2
    dsimp only at hk2 hn2 ⊢
    replace hn2 := neH_of hn2
    (replace hn2 := hn2; simp only [VN] at hn2)
    rcases nL k sub.length with hlt | hge
    ·have hxk := hsx _ (gM hlt)
     have hik : k = 0 ∨ ¬ k = 0 := by omega
     have hik' : (k : Int) = 0 ↔ k = 0 := by omega
     rcases hik with hik | hik
     all_goals
      ((try refine qI ?_); (repeat ((first | with_reducible refine qU ?_ | simp only [brGen]); try simp (maxSteps := 9^7) +contextual only [↓ S2, S2, ↓reduceIte, reduceNe, reduceEqDiff, reduceCtorEq, reduceLeDiff, reduceAdd, reduceLT, VQ, hn2, hik, hik', List.length_append, List.length_singleton, List.length_map, List.length_take, maxLv])); (try simp +contextual (disch := omega) only [Z2, hn2, hik, hik', List.length_append, List.length_singleton, List.length_map, List.length_take, maxLv]); (with_reducible repeat' (first | intro h | refine And.intro (by omega) ?_ | refine exP (by omega) ?_ | apply And.intro)))
     all_goals try exact oF
     all_goals
      refine callS.of (o51 _ _ (hsx _ (gM _)) _) ?_
      rintro g H' ⟨rc, rfl, rfl⟩ hnc
      replace hnc := neH_of hnc
      (replace hnc := hnc; simp only [VN] at hnc)
      ((try refine qI ?_); (repeat ((first | with_reducible refine qU ?_ | simp only [brGen]); try simp (maxSteps := 9^7) +contextual only [↓ S2, S2, ↓reduceIte, reduceNe, reduceEqDiff, reduceCtorEq, reduceLeDiff, reduceAdd, reduceLT, VQ, hn2, hnc, hik, hik', List.length_append, List.length_singleton, List.length_map, List.length_take, maxLv])); (try simp +contextual (disch := omega) only [Z2, hn2, hnc, hik, hik', List.length_append, List.length_singleton, List.length_map, List.length_take, maxLv]); (with_reducible repeat' (first | intro h | refine And.intro (by omega) ?_ | refine exP (by omega) ?_ | apply And.intro)))
     all_goals
      rename_i rx _ r3 _ r4
     ·subst hik
      refine nxF ⟨(r4, 0 + 1), by omega⟩ (by simp; omega) (FE.trans (FE.perm (H := [_, _, _, _, _]) (L := [(r4, _), (rc, _), (r0, _)]) (by repeat' (first | exact trivial | (refine And.intro (by simp only [hget_c, *, if_true, if_false]; try rfl) (And.intro (by simp [names_cons, names_nil, *]) ?_))))) (FE.closeL2 (j := 5) (by simp [*]) rfl (by simp))) (by simp [E2]) ?_
      rw [tL (by simp; omega), ← putT_take hlt]
      simp only [List.take_zero, List.nil_append, List.append_nil, List.map_append, List.map_cons, List.map_nil, putK, if_true, getD_lt hlt]
      rfl
     ·refine nxF ⟨(r4, k + 1), by omega⟩ (by simp; omega) (FE.trans (FE.perm (H := [_, _, _, _, _]) (L := [(r4, _), (rc, _), (r0, _)]) (by repeat' (first | exact trivial | (refine And.intro (by simp only [hget_c, *, if_true, if_false]; try rfl) (And.intro (by simp [names_cons, names_nil, *]) ?_))))) (FE.closeL2 (j := 5) (by simp [*]) rfl (by simp))) (by simp [E2]) ?_
      rw [tL (by simp; omega), ← putT_take hlt]
      simp only [List.map_append, List.map_cons, List.map_nil, putK, if_neg hik, getD_lt hlt, List.append_assoc]
      rfl
    ·have hki : k = sub.length := by omega
     subst hki
     ((try refine qI ?_); (repeat ((first | with_reducible refine qU ?_ | simp only [brGen]); try simp (maxSteps := 9^7) +contextual only [↓ S2, S2, ↓reduceIte, reduceNe, reduceEqDiff, reduceCtorEq, reduceLeDiff, reduceAdd, reduceLT, VQ, hn2, List.length_append, List.length_singleton, List.length_map, List.length_take, maxLv])); (try simp +contextual (disch := omega) only [Z2, hn2, List.length_append, List.length_singleton, List.length_map, List.length_take, maxLv]); (with_reducible repeat' (first | intro h | refine And.intro (by omega) ?_ | refine exP (by omega) ?_ | apply And.intro)))
     all_goals try exact oF
     have hdl : (t.drop (i + n)).length = t.length - (i + n) := by simp
     refine wloopN mxd (ι := { y : Nat × Nat // y.2 ≤ t.length - (i + n) }) (fun y => [(1, I i), (3, .rop 1 (Tr t)), (5, .rop 1 (Tr sub)), (6, .raw 1), (7, I n), (8, .ptr r0 1 0 0), (9, I (sub.length - n)), (13, I ((i + n + y.1.2 : Nat) : Int))]) (fun y => (y.1.1, 6, ((t.take i).map F ++ (putT sub t[i] i ++ ((t.drop (i + n)).take y.1.2).map F)).map NdO) :: (r0, 1, [.own y.1.1 6 0 (i + sub.length + y.1.2)]) :: H) (fun y => t.length - y.1.2) ⟨(q2, 0), by simp⟩ (by simp [E2]) (by simp [tL (Nat.le_of_eq hpl)]) ?_
     rintro ⟨⟨q3, k⟩, hk3⟩ hn3
     dsimp only at hk3 hn3 ⊢
     replace hn3 := neH_of hn3
     (replace hn3 := hn3; simp only [VN] at hn3)
     rcases nL k (t.length - (i + n)) with hlt | hge
     ·have hkt : i + n + k < t.length := by omega
      have hxk := hx _ (gM hkt)
      ((try refine qI ?_); (repeat ((first | with_reducible refine qU ?_ | simp only [brGen]); try simp (maxSteps := 9^7) +contextual only [↓ S2, S2, ↓reduceIte, reduceNe, reduceEqDiff, reduceCtorEq, reduceLeDiff, reduceAdd, reduceLT, VQ, hn3, List.length_append, List.length_singleton, List.length_map, List.length_take, maxLv])); (try simp +contextual (disch := omega) only [Z2, hn3, List.length_append, List.length_singleton, List.length_map, List.length_take, maxLv]); (with_reducible repeat' (first | intro h | refine And.intro (by omega) ?_ | refine exP (by omega) ?_ | apply And.intro)))
      all_goals try exact oF
      refine callA.of (o56 _ _ _ (hx _ (gM _)) _) (by rintro g H' ⟨H1, _, rfl⟩; exact ⟨H1, rfl⟩) ?_
      rintro g H' ⟨H1, ⟨rc, rfl, rfl⟩, rfl⟩ hnc
      replace hnc := neH_of hnc
      simp only [List.cons_append, List.nil_append] at hnc ⊢
      (replace hnc := hnc; simp only [VN] at hnc)
      ((try refine qI ?_); (repeat ((first | with_reducible refine qU ?_ | simp only [brGen]); try simp (maxSteps := 9^7) +contextual only [↓ S2, S2, ↓reduceIte, reduceNe, reduceEqDiff, reduceCtorEq, reduceLeDiff, reduceAdd, reduceLT, VQ, hn3, hnc, List.length_append, List.length_singleton, List.length_map, List.length_take, maxLv])); (try simp +contextual (disch := omega) only [Z2, hn3, hnc, List.length_append, List.length_singleton, List.length_map, List.length_take, maxLv]); (with_reducible repeat' (first | intro h | refine And.intro (by omega) ?_ | refine exP (by omega) ?_ | apply And.intro)))
      all_goals try exact oF
      rename_i r3 _ r4
      refine nxF ⟨(r4, k + 1), by omega⟩ (by simp; omega) (FE.trans (FE.perm (H := [_, _, _, _]) (L := [(r4, _), (rc, _), (r0, _)]) (by repeat' (first | exact trivial | (refine And.intro (by simp only [hget_c, *, if_true, if_false]; try rfl) (And.intro (by simp [names_cons, names_nil, *]) ?_))))) (FE.closeL2 (j := 5) (by simp [*]) rfl (by simp))) (by simp [E2]; omega) ?_
      have hkd : k < (t.drop (i + n)).length := by rw [hdl]; omega
      rw [tL (by simp [hpl]; omega), ← take_snocM F hkd, List.getElem_drop]
      simp only [List.map_append, List.map_cons, List.map_nil, List.append_assoc, ← hF]
      rfl
     ·have hki : k = t.length - (i + n) := by omega
      subst hki
      ((try refine qI ?_); (repeat ((first | with_reducible refine qU ?_ | simp only [brGen]); try simp (maxSteps := 9^7) +contextual only [↓ S2, S2, ↓reduceIte, reduceNe, reduceEqDiff, reduceCtorEq, reduceLeDiff, reduceAdd, reduceLT, VQ, hn3, maxLv])); (try simp +contextual (disch := omega) only [Z2, hn3, maxLv]); (with_reducible repeat' (first | intro h | refine And.intro (by omega) ?_ | refine exP (by omega) ?_ | apply And.intro)))
      all_goals try exact oF
      rw [tL (Nat.le_of_eq hdl)]
      exact ⟨q3, by simp [hpl]; omega, .inr ⟨r0, _, hn3.1.1, rfl⟩⟩
  ·have hre : repT t i sub = t := by simp only [repT, if_neg hc]
   rw [hre]
   have hz : ¬ (treeSize t i = 0) → ((sub.length : Int) = 0) := fun h => by
    have : 0 ≤ i ∧ i < t.length := by
     refine Classical.byContradiction fun h' => h ?_
     simp [treeSize, h']
    have : sub = [] := Classical.byContradiction fun h' => hc ⟨this.1, this.2, h'⟩
    simp [this]
   rcases Classical.em (treeSize t i = 0) with h0 | h0
   ·simp only [h0]
    ((try refine qI ?_); (repeat ((first | with_reducible refine qU ?_ | simp only [brGen]); try simp (maxSteps := 9^7) +contextual only [↓ S2, S2, ↓reduceIte, reduceNe, reduceEqDiff, reduceCtorEq, reduceLeDiff, reduceAdd, reduceLT, VQ, h0])); (try simp +contextual (disch := omega) only [Z2, h0]); (with_reducible repeat' (first | intro h | refine And.intro (by omega) ?_ | refine exP (by omega) ?_ | apply And.intro)))
    refine callS.of (o55 t hl hx _) ?_
    rintro g H' ⟨r, rfl, rfl⟩ -
    ((try refine qI ?_); (repeat ((first | with_reducible refine qU ?_ | simp only [brGen]); try simp (maxSteps := 9^7) +contextual only [↓ S2, S2, ↓reduceIte, reduceNe, reduceEqDiff, reduceCtorEq, reduceLeDiff, reduceAdd, reduceLT, VQ, h0])); (try simp +contextual (disch := omega) only [Z2, h0]); (with_reducible repeat' (first | intro h | refine And.intro (by omega) ?_ | refine exP (by omega) ?_ | apply And.intro)))
    exact ⟨r, rfl, .inl rfl⟩
   ·have h1 := hz h0
    ((try refine qI ?_); (repeat ((first | with_reducible refine qU ?_ | simp only [brGen]); try simp (maxSteps := 9^7) +contextual only [↓ S2, S2, ↓reduceIte, reduceNe, reduceEqDiff, reduceCtorEq, reduceLeDiff, reduceAdd, reduceLT, VQ, h0, h1])); (try simp +contextual (disch := omega) only [Z2, h0, h1]); (with_reducible repeat' (first | intro h | refine And.intro (by omega) ?_ | refine exP (by omega) ?_ | apply And.intro)))
    refine callS.of (o55 t hl hx _) ?_
    rintro g H' ⟨r, rfl, rfl⟩ -
    ((try refine qI ?_); (repeat ((first | with_reducible refine qU ?_ | simp only [brGen]); try simp (maxSteps := 9^7) +contextual only [↓ S2, S2, ↓reduceIte, reduceNe, reduceEqDiff, reduceCtorEq, reduceLeDiff, reduceAdd, reduceLT, VQ, h0])); (try simp +contextual (disch := omega) only [Z2, h0]); (with_reducible repeat' (first | intro h | refine And.intro (by omega) ?_ | refine exP (by omega) ?_ | apply And.intro)))
    exact ⟨r, rfl, .inl rfl⟩
 refine h0.fr ?_
 rintro g H' ⟨r, rfl, rfl | ⟨r0, e, hne, rfl⟩⟩
 ·exact ⟨_, _, FR.refl _ _, r, rfl, rfl⟩
 ·exact ⟨_, _, FR.drop (r := r0) (by rw [hget_old hne, hget_new]), r, rfl, by rw [hdel_old hne, hdel_new]⟩
end Go.Proofs.Ytfpjmfjhdaccnaa
