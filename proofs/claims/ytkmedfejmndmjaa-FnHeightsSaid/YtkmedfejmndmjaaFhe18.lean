/- The law FnHeights returns true whatever the input, and the input reads behind the call as before. No condition. -/
import Derived.Test.YtkmedfejmndmjaaFhe4
import Derived.Test.YtkmedfejmndmjaaFhe5
import Derived.Test.YtkmedfejmndmjaaFhe17
set_option linter.unusedSimpArgs false
set_option linter.unusedVariables false
namespace Go.Proofs.Ytkmedfejmndmjaa
open Go.Gh
set_option maxRecDepth 20000
set_option linter.unusedSimpArgs false
set_option linter.unusedVariables false
theorem w6 (g : Gram) (s : ByteArray) (hg : smGr g) (h4 : g.syms.length ≤ 4) : Pure Try.prog 6 [Gr g, T s] (· = I (minH g s)) := by
  have hl := hgts_len g
  have hl2 := hg.1
  have hm : minH g s = if ixOf (fun y : Sym => decide (y.name = s)) g.syms < 0 then 0 else (hgts g).getD (ixOf (fun y : Sym => decide (y.name = s)) g.syms).toNat 0 := rfl
  refine gstart mxd i6 rfl (by simp) ?_; simp (maxSteps := 2000000) only [↓ S2, S2, vIte, ↓reduceIte, Int.reduceNe, Nat.reduceEqDiff, reduceCtorEq, Nat.reduceLeDiff, Nat.reduceAdd, Nat.reduceLT]
  ((try with_reducible refine mkQI ?_); (repeat ((first | (with_reducible refine mkQU ?_) | simp only [brGen]); try simp (maxSteps := 4000000) +contextual only [↓ S2, S2, vIte, ↓reduceIte, Int.reduceNe, Nat.reduceEqDiff, reduceCtorEq, Nat.reduceLeDiff, Nat.reduceAdd, Nat.reduceLT, hget_c, hset_c, hdel_c, neN, neA_cons, neA_nil, ])); (try simp +contextual (disch := omega) only [Z2, ]); (repeat' (first | (with_reducible intro h) | (with_reducible refine And.intro (by omega) ?_) | (with_reducible refine exP (by omega) ?_) | (with_reducible apply And.intro))))
  refine wloop mxd (ι := { i : Nat // i ≤ g.syms.length ∧ ∀ y ∈ g.syms.take i, decide (y.name = s) = false }) (fun i => [(1, T s), (2, .rop 2 (Gr g)), (8, SyS g.syms), (9, I g.syms.length), (10, I i.1)]) (fun _ => []) (fun i => g.syms.length - i.1) ⟨0, by simp⟩ (by simp [E2]) rfl ?_
  rintro ⟨i, hi, hn⟩
  rcases Nat.lt_or_ge i g.syms.length with hlt | hge
  · by_cases he : g.syms[i].name = s
    · rw [ixOf_hit hlt (by simp [he]) hn, if_neg (by omega), Int.toNat_natCast, getD_lt (by omega)] at hm
      rw [hm]
      ((try with_reducible refine mkQI ?_); (repeat ((first | (with_reducible refine mkQU ?_) | simp only [brGen]); try simp (maxSteps := 4000000) +contextual only [↓ S2, S2, vIte, ↓reduceIte, Int.reduceNe, Nat.reduceEqDiff, reduceCtorEq, Nat.reduceLeDiff, Nat.reduceAdd, Nat.reduceLT, hget_c, hset_c, hdel_c, neN, neA_cons, neA_nil, he])); (try simp +contextual (disch := omega) only [Z2, he]); (repeat' (first | (with_reducible intro h) | (with_reducible refine And.intro (by omega) ?_) | (with_reducible refine exP (by omega) ?_) | (with_reducible apply And.intro))))
      all_goals try (exfalso; omega)
      refine callS.eq (w12 g hg h4) ?_
      ((try with_reducible refine mkQI ?_); (repeat ((first | (with_reducible refine mkQU ?_) | simp only [brGen]); try simp (maxSteps := 4000000) +contextual only [↓ S2, S2, vIte, ↓reduceIte, Int.reduceNe, Nat.reduceEqDiff, reduceCtorEq, Nat.reduceLeDiff, Nat.reduceAdd, Nat.reduceLT, hget_c, hset_c, hdel_c, neN, neA_cons, neA_nil, List.length_map, hl])); (try simp +contextual (disch := omega) only [Z2, List.length_map, hl]); (repeat' (first | (with_reducible intro h) | (with_reducible refine And.intro (by omega) ?_) | (with_reducible refine exP (by omega) ?_) | (with_reducible apply And.intro))))
      all_goals try (exfalso; omega)
    · ((try with_reducible refine mkQI ?_); (repeat ((first | (with_reducible refine mkQU ?_) | simp only [brGen]); try simp (maxSteps := 4000000) +contextual only [↓ S2, S2, vIte, ↓reduceIte, Int.reduceNe, Nat.reduceEqDiff, reduceCtorEq, Nat.reduceLeDiff, Nat.reduceAdd, Nat.reduceLT, hget_c, hset_c, hdel_c, neN, neA_cons, neA_nil, he])); (try simp +contextual (disch := omega) only [Z2, he]); (repeat' (first | (with_reducible intro h) | (with_reducible refine And.intro (by omega) ?_) | (with_reducible refine exP (by omega) ?_) | (with_reducible apply And.intro))))
      all_goals try (exfalso; omega)
      exact nx ⟨i + 1, by omega, take_step hlt (by simp [he]) hn⟩ (by simp <;> omega) (by simp [E2]) rfl
  · obtain rfl : i = g.syms.length := by omega
    rw [List.take_length] at hn
    rw [ixOf_none hn, if_pos (by omega)] at hm
    rw [hm]
    ((try with_reducible refine mkQI ?_); (repeat ((first | (with_reducible refine mkQU ?_) | simp only [brGen]); try simp (maxSteps := 4000000) +contextual only [↓ S2, S2, vIte, ↓reduceIte, Int.reduceNe, Nat.reduceEqDiff, reduceCtorEq, Nat.reduceLeDiff, Nat.reduceAdd, Nat.reduceLT, hget_c, hset_c, hdel_c, neN, neA_cons, neA_nil, ])); (try simp +contextual (disch := omega) only [Z2, ]); (repeat' (first | (with_reducible intro h) | (with_reducible refine And.intro (by omega) ?_) | (with_reducible refine exP (by omega) ?_) | (with_reducible apply And.intro))))
    all_goals try (exfalso; omega)
theorem w8 (g : Gram) (s : ByteArray) (hg : smGr g) (h4 : g.syms.length ≤ 4) : Pure Try.prog 8 [Gr g, T s] (· = B (decide (0 < minH g s))) := by
  refine gstart mxd i8 rfl (by simp) ?_; simp (maxSteps := 2000000) only [↓ S2, S2, vIte, ↓reduceIte, Int.reduceNe, Nat.reduceEqDiff, reduceCtorEq, Nat.reduceLeDiff, Nat.reduceAdd, Nat.reduceLT]
  ((try with_reducible refine mkQI ?_); (repeat ((first | (with_reducible refine mkQU ?_) | simp only [brGen]); try simp (maxSteps := 4000000) +contextual only [↓ S2, S2, vIte, ↓reduceIte, Int.reduceNe, Nat.reduceEqDiff, reduceCtorEq, Nat.reduceLeDiff, Nat.reduceAdd, Nat.reduceLT, hget_c, hset_c, hdel_c, neN, neA_cons, neA_nil, ])); (try simp +contextual (disch := omega) only [Z2, ]); (repeat' (first | (with_reducible intro h) | (with_reducible refine And.intro (by omega) ?_) | (with_reducible refine exP (by omega) ?_) | (with_reducible apply And.intro))))
  refine callS.eq (w6 g s hg h4) ?_
  ((try with_reducible refine mkQI ?_); (repeat ((first | (with_reducible refine mkQU ?_) | simp only [brGen]); try simp (maxSteps := 4000000) +contextual only [↓ S2, S2, vIte, ↓reduceIte, Int.reduceNe, Nat.reduceEqDiff, reduceCtorEq, Nat.reduceLeDiff, Nat.reduceAdd, Nat.reduceLT, hget_c, hset_c, hdel_c, neN, neA_cons, neA_nil, gt_iff_lt])); (try simp +contextual (disch := omega) only [Z2, gt_iff_lt]); (repeat' (first | (with_reducible intro h) | (with_reducible refine And.intro (by omega) ?_) | (with_reducible refine exP (by omega) ?_) | (with_reducible apply And.intro))))
theorem w11 (bs : List UInt8) (hb : bs.length ≤ 1048576) : Pure Try.prog 11 [Bs bs] (fun v => ∃ g s, beG g ∧ shT s ∧ v = .tup [Gr g, T s]) := by
  refine gstart mxd i11 rfl (by simp) ?_; simp (maxSteps := 2000000) only [↓ S2, S2, vIte, ↓reduceIte, Int.reduceNe, Nat.reduceEqDiff, reduceCtorEq, Nat.reduceLeDiff, Nat.reduceAdd, Nat.reduceLT]
  (((try with_reducible refine mkQI ?_); (repeat ((first | (with_reducible refine mkQU ?_) | simp only [brGen]); try simp (maxSteps := 2000000) only [↓ S2, S2, vIte, ↓reduceIte, Int.reduceNe, Nat.reduceEqDiff, reduceCtorEq, Nat.reduceLeDiff, Nat.reduceAdd, Nat.reduceLT, hget_c, hset_c, hdel_c])); (try simp +contextual (disch := omega) only [Z2, hget_c, hset_c, hdel_c]); (repeat' (first | (with_reducible intro h) | (with_reducible refine And.intro (by omega) ?_) | (with_reducible refine exP (by omega) ?_) | (with_reducible apply And.intro)))); (repeat' (have h := neH_of h; simp only [neH_cons, neH_nil, neA_cons, neA_nil, and_true, true_and] at h; ((try with_reducible refine mkQI ?_); (repeat ((first | (with_reducible refine mkQU ?_) | simp only [brGen]); try simp (maxSteps := 2000000) only [↓ S2, S2, vIte, ↓reduceIte, Int.reduceNe, Nat.reduceEqDiff, reduceCtorEq, Nat.reduceLeDiff, Nat.reduceAdd, Nat.reduceLT, hget_c, hset_c, hdel_c, h])); (try simp +contextual (disch := omega) only [Z2, hget_c, hset_c, hdel_c, h]); (repeat' (first | (with_reducible intro h) | (with_reducible refine And.intro (by omega) ?_) | (with_reducible refine exP (by omega) ?_) | (with_reducible apply And.intro)))))))
  refine callS.of (o16 bs hb _) ?_
  rintro _ _ ⟨rc, rfl, rfl⟩ hn
  (((try with_reducible refine mkQI ?_); (repeat ((first | (with_reducible refine mkQU ?_) | simp only [brGen]); try simp (maxSteps := 2000000) only [↓ S2, S2, vIte, ↓reduceIte, Int.reduceNe, Nat.reduceEqDiff, reduceCtorEq, Nat.reduceLeDiff, Nat.reduceAdd, Nat.reduceLT, hget_c, hset_c, hdel_c])); (try simp +contextual (disch := omega) only [Z2, hget_c, hset_c, hdel_c]); (repeat' (first | (with_reducible intro h) | (with_reducible refine And.intro (by omega) ?_) | (with_reducible refine exP (by omega) ?_) | (with_reducible apply And.intro)))); (repeat' (have h := neH_of h; simp only [neH_cons, neH_nil, neA_cons, neA_nil, and_true, true_and] at h; ((try with_reducible refine mkQI ?_); (repeat ((first | (with_reducible refine mkQU ?_) | simp only [brGen]); try simp (maxSteps := 2000000) only [↓ S2, S2, vIte, ↓reduceIte, Int.reduceNe, Nat.reduceEqDiff, reduceCtorEq, Nat.reduceLeDiff, Nat.reduceAdd, Nat.reduceLT, hget_c, hset_c, hdel_c, h])); (try simp +contextual (disch := omega) only [Z2, hget_c, hset_c, hdel_c, h]); (repeat' (first | (with_reducible intro h) | (with_reducible refine And.intro (by omega) ?_) | (with_reducible refine exP (by omega) ?_) | (with_reducible apply And.intro)))))))
  refine callS.dv w17 hget_new ?_
  rintro _ ⟨g, hg, rfl⟩
  (((try with_reducible refine mkQI ?_); (repeat ((first | (with_reducible refine mkQU ?_) | simp only [brGen]); try simp (maxSteps := 2000000) only [↓ S2, S2, vIte, ↓reduceIte, Int.reduceNe, Nat.reduceEqDiff, reduceCtorEq, Nat.reduceLeDiff, Nat.reduceAdd, Nat.reduceLT, hget_c, hset_c, hdel_c])); (try simp +contextual (disch := omega) only [Z2, hget_c, hset_c, hdel_c]); (repeat' (first | (with_reducible intro h) | (with_reducible refine And.intro (by omega) ?_) | (with_reducible refine exP (by omega) ?_) | (with_reducible apply And.intro)))); (repeat' (have h := neH_of h; simp only [neH_cons, neH_nil, neA_cons, neA_nil, and_true, true_and] at h; ((try with_reducible refine mkQI ?_); (repeat ((first | (with_reducible refine mkQU ?_) | simp only [brGen]); try simp (maxSteps := 2000000) only [↓ S2, S2, vIte, ↓reduceIte, Int.reduceNe, Nat.reduceEqDiff, reduceCtorEq, Nat.reduceLeDiff, Nat.reduceAdd, Nat.reduceLT, hget_c, hset_c, hdel_c, h])); (try simp +contextual (disch := omega) only [Z2, hget_c, hset_c, hdel_c, h]); (repeat' (first | (with_reducible intro h) | (with_reducible refine And.intro (by omega) ?_) | (with_reducible refine exP (by omega) ?_) | (with_reducible apply And.intro)))))))
  refine callS.dv (w18 _ rfl (by simp)) hget_new ?_
  intro _ hg2; obtain ⟨nm, hnm, rfl⟩ := ltT_mem rfl hg2; clear hg2
  (((try with_reducible refine mkQI ?_); (repeat ((first | (with_reducible refine mkQU ?_) | simp only [brGen]); try simp (maxSteps := 2000000) only [↓ S2, S2, vIte, ↓reduceIte, Int.reduceNe, Nat.reduceEqDiff, reduceCtorEq, Nat.reduceLeDiff, Nat.reduceAdd, Nat.reduceLT, hget_c, hset_c, hdel_c])); (try simp +contextual (disch := omega) only [Z2, hget_c, hset_c, hdel_c]); (repeat' (first | (with_reducible intro h) | (with_reducible refine And.intro (by omega) ?_) | (with_reducible refine exP (by omega) ?_) | (with_reducible apply And.intro)))); (repeat' (have h := neH_of h; simp only [neH_cons, neH_nil, neA_cons, neA_nil, and_true, true_and] at h; ((try with_reducible refine mkQI ?_); (repeat ((first | (with_reducible refine mkQU ?_) | simp only [brGen]); try simp (maxSteps := 2000000) only [↓ S2, S2, vIte, ↓reduceIte, Int.reduceNe, Nat.reduceEqDiff, reduceCtorEq, Nat.reduceLeDiff, Nat.reduceAdd, Nat.reduceLT, hget_c, hset_c, hdel_c, h])); (try simp +contextual (disch := omega) only [Z2, hget_c, hset_c, hdel_c, h]); (repeat' (first | (with_reducible intro h) | (with_reducible refine And.intro (by omega) ?_) | (with_reducible refine exP (by omega) ?_) | (with_reducible apply And.intro)))))))
  exact ⟨g, nm, hg, hnm, rfl⟩
theorem w5 (bs : List UInt8) (hb : bs.length ≤ 1048576) : Pure Try.prog 5 [Bs bs] (fun v => ∃ g s, beG g ∧ shT s ∧ v = .tup [Gr g, T s]) := by
  refine gstart mxd i5 rfl (by simp) ?_; simp (maxSteps := 2000000) only [↓ S2, S2, vIte, ↓reduceIte, Int.reduceNe, Nat.reduceEqDiff, reduceCtorEq, Nat.reduceLeDiff, Nat.reduceAdd, Nat.reduceLT]
  (((try with_reducible refine mkQI ?_); (repeat ((first | (with_reducible refine mkQU ?_) | simp only [brGen]); try simp (maxSteps := 2000000) only [↓ S2, S2, vIte, ↓reduceIte, Int.reduceNe, Nat.reduceEqDiff, reduceCtorEq, Nat.reduceLeDiff, Nat.reduceAdd, Nat.reduceLT, hget_c, hset_c, hdel_c])); (try simp +contextual (disch := omega) only [Z2, hget_c, hset_c, hdel_c]); (repeat' (first | (with_reducible intro h) | (with_reducible refine And.intro (by omega) ?_) | (with_reducible refine exP (by omega) ?_) | (with_reducible apply And.intro)))); (repeat' (have h := neH_of h; simp only [neH_cons, neH_nil, neA_cons, neA_nil, and_true, true_and] at h; ((try with_reducible refine mkQI ?_); (repeat ((first | (with_reducible refine mkQU ?_) | simp only [brGen]); try simp (maxSteps := 2000000) only [↓ S2, S2, vIte, ↓reduceIte, Int.reduceNe, Nat.reduceEqDiff, reduceCtorEq, Nat.reduceLeDiff, Nat.reduceAdd, Nat.reduceLT, hget_c, hset_c, hdel_c, h])); (try simp +contextual (disch := omega) only [Z2, hget_c, hset_c, hdel_c, h]); (repeat' (first | (with_reducible intro h) | (with_reducible refine And.intro (by omega) ?_) | (with_reducible refine exP (by omega) ?_) | (with_reducible apply And.intro)))))))
  refine callS.of ((w11 bs hb).frame _) ?_
  rintro _ _ ⟨⟨g, t, hg, ht, rfl⟩, rfl⟩ _
  (((try with_reducible refine mkQI ?_); (repeat ((first | (with_reducible refine mkQU ?_) | simp only [brGen]); try simp (maxSteps := 2000000) only [↓ S2, S2, vIte, ↓reduceIte, Int.reduceNe, Nat.reduceEqDiff, reduceCtorEq, Nat.reduceLeDiff, Nat.reduceAdd, Nat.reduceLT, hget_c, hset_c, hdel_c])); (try simp +contextual (disch := omega) only [Z2, hget_c, hset_c, hdel_c]); (repeat' (first | (with_reducible intro h) | (with_reducible refine And.intro (by omega) ?_) | (with_reducible refine exP (by omega) ?_) | (with_reducible apply And.intro)))); (repeat' (have h := neH_of h; simp only [neH_cons, neH_nil, neA_cons, neA_nil, and_true, true_and] at h; ((try with_reducible refine mkQI ?_); (repeat ((first | (with_reducible refine mkQU ?_) | simp only [brGen]); try simp (maxSteps := 2000000) only [↓ S2, S2, vIte, ↓reduceIte, Int.reduceNe, Nat.reduceEqDiff, reduceCtorEq, Nat.reduceLeDiff, Nat.reduceAdd, Nat.reduceLT, hget_c, hset_c, hdel_c, h])); (try simp +contextual (disch := omega) only [Z2, hget_c, hset_c, hdel_c, h]); (repeat' (first | (with_reducible intro h) | (with_reducible refine And.intro (by omega) ?_) | (with_reducible refine exP (by omega) ?_) | (with_reducible apply And.intro)))))))
  exact ⟨g, t, hg, ht, rfl⟩
set_option maxHeartbeats 4000000 in
theorem w3 (bs : List UInt8) : Pure Try.prog 3 [Bs bs] (· = B true) := by
  refine gstart mxd i3 rfl (by simp) ?_; simp (maxSteps := 2000000) only [↓ S2, S2, vIte, ↓reduceIte, Int.reduceNe, Nat.reduceEqDiff, reduceCtorEq, Nat.reduceLeDiff, Nat.reduceAdd, Nat.reduceLT]
  ((try with_reducible refine mkQI ?_); (repeat ((first | (with_reducible refine mkQU ?_) | simp only [brGen]); try simp (maxSteps := 4000000) +contextual only [↓ S2, S2, vIte, ↓reduceIte, Int.reduceNe, Nat.reduceEqDiff, reduceCtorEq, Nat.reduceLeDiff, Nat.reduceAdd, Nat.reduceLT, hget_c, hset_c, hdel_c, neN, neA_cons, neA_nil, ])); (try simp +contextual (disch := omega) only [Z2, ]); (repeat' (first | (with_reducible intro h) | (with_reducible refine And.intro (by omega) ?_) | (with_reducible refine exP (by omega) ?_) | (with_reducible apply And.intro))))
  refine callS.eq (w4 bs) ?_
  by_cases hb : (1048576 : Int) < bs.length
  · have hb' := eq_true hb
    ((try with_reducible refine mkQI ?_); (repeat ((first | (with_reducible refine mkQU ?_) | simp only [brGen]); try simp (maxSteps := 4000000) +contextual only [↓ S2, S2, vIte, ↓reduceIte, Int.reduceNe, Nat.reduceEqDiff, reduceCtorEq, Nat.reduceLeDiff, Nat.reduceAdd, Nat.reduceLT, hget_c, hset_c, hdel_c, neN, neA_cons, neA_nil, hb', decide_true])); (try simp +contextual (disch := omega) only [Z2, hb', decide_true]); (repeat' (first | (with_reducible intro h) | (with_reducible refine And.intro (by omega) ?_) | (with_reducible refine exP (by omega) ?_) | (with_reducible apply And.intro))))
  · have hb' := eq_false hb
    ((try with_reducible refine mkQI ?_); (repeat ((first | (with_reducible refine mkQU ?_) | simp only [brGen]); try simp (maxSteps := 4000000) +contextual only [↓ S2, S2, vIte, ↓reduceIte, Int.reduceNe, Nat.reduceEqDiff, reduceCtorEq, Nat.reduceLeDiff, Nat.reduceAdd, Nat.reduceLT, hget_c, hset_c, hdel_c, neN, neA_cons, neA_nil, hb', decide_false])); (try simp +contextual (disch := omega) only [Z2, hb', decide_false]); (repeat' (first | (with_reducible intro h) | (with_reducible refine And.intro (by omega) ?_) | (with_reducible refine exP (by omega) ?_) | (with_reducible apply And.intro))))
    refine callS.of ((w5 bs (by omega)).frame _) ?_
    rintro _ _ ⟨⟨g, nm, hg, _, rfl⟩, rfl⟩ _
    obtain ⟨⟨hok, hsm⟩, h4⟩ := hg
    have hrl := hsm.2.1
    ((try with_reducible refine mkQI ?_); (repeat ((first | (with_reducible refine mkQU ?_) | simp only [brGen]); try simp (maxSteps := 4000000) +contextual only [↓ S2, S2, vIte, ↓reduceIte, Int.reduceNe, Nat.reduceEqDiff, reduceCtorEq, Nat.reduceLeDiff, Nat.reduceAdd, Nat.reduceLT, hget_c, hset_c, hdel_c, neN, neA_cons, neA_nil, ])); (try simp +contextual (disch := omega) only [Z2, ]); (repeat' (first | (with_reducible intro h) | (with_reducible refine And.intro (by omega) ?_) | (with_reducible refine exP (by omega) ?_) | (with_reducible apply And.intro))))
    refine callS.eq (w6 g nm hsm h4) ?_
    ((try with_reducible refine mkQI ?_); (repeat ((first | (with_reducible refine mkQU ?_) | simp only [brGen]); try simp (maxSteps := 4000000) +contextual only [↓ S2, S2, vIte, ↓reduceIte, Int.reduceNe, Nat.reduceEqDiff, reduceCtorEq, Nat.reduceLeDiff, Nat.reduceAdd, Nat.reduceLT, hget_c, hset_c, hdel_c, neN, neA_cons, neA_nil, ])); (try simp +contextual (disch := omega) only [Z2, ]); (repeat' (first | (with_reducible intro h) | (with_reducible refine And.intro (by omega) ?_) | (with_reducible refine exP (by omega) ?_) | (with_reducible apply And.intro))))
    refine callS.eq (w7 g nm hsm h4) ?_
    ((try with_reducible refine mkQI ?_); (repeat ((first | (with_reducible refine mkQU ?_) | simp only [brGen]); try simp (maxSteps := 4000000) +contextual only [↓ S2, S2, vIte, ↓reduceIte, Int.reduceNe, Nat.reduceEqDiff, reduceCtorEq, Nat.reduceLeDiff, Nat.reduceAdd, Nat.reduceLT, hget_c, hset_c, hdel_c, neN, neA_cons, neA_nil, ])); (try simp +contextual (disch := omega) only [Z2, ]); (repeat' (first | (with_reducible intro h) | (with_reducible refine And.intro (by omega) ?_) | (with_reducible refine exP (by omega) ?_) | (with_reducible apply And.intro))))
    refine callS.eq (w8 g nm hsm h4) ?_
    ((try with_reducible refine mkQI ?_); (repeat ((first | (with_reducible refine mkQU ?_) | simp only [brGen]); try simp (maxSteps := 4000000) +contextual only [↓ S2, S2, vIte, ↓reduceIte, Int.reduceNe, Nat.reduceEqDiff, reduceCtorEq, Nat.reduceLeDiff, Nat.reduceAdd, Nat.reduceLT, hget_c, hset_c, hdel_c, neN, neA_cons, neA_nil, gt_iff_lt])); (try simp +contextual (disch := omega) only [Z2, gt_iff_lt]); (repeat' (first | (with_reducible intro h) | (with_reducible refine And.intro (by omega) ?_) | (with_reducible refine exP (by omega) ?_) | (with_reducible apply And.intro))))
    refine callS.eq (w9 g nm hsm) ?_
    ((try with_reducible refine mkQI ?_); (repeat ((first | (with_reducible refine mkQU ?_) | simp only [brGen]); try simp (maxSteps := 4000000) +contextual only [↓ S2, S2, vIte, ↓reduceIte, Int.reduceNe, Nat.reduceEqDiff, reduceCtorEq, Nat.reduceLeDiff, Nat.reduceAdd, Nat.reduceLT, hget_c, hset_c, hdel_c, neN, neA_cons, neA_nil, ])); (try simp +contextual (disch := omega) only [Z2, ]); (repeat' (first | (with_reducible intro h) | (with_reducible refine And.intro (by omega) ?_) | (with_reducible refine exP (by omega) ?_) | (with_reducible apply And.intro))))
    refine wloop mxd (ι := { i : Nat // i ≤ g.rules.length }) (fun i => [(3, .rop 2 (Gr g)), (4, T nm), (5, I (minH g nm)), (6, I (bestT g nm i.1)), (7, TS (rulO g nm)), (8, I i.1)]) (fun _ => []) (fun i => g.rules.length - i.1) ⟨0, by omega⟩ (by simp [E2, bestT]) rfl ?_
    rintro ⟨i, hi⟩
    dsimp only
    have hbr := bestT_rng h4 nm i
    rcases Nat.lt_or_ge i g.rules.length with hlt | hge
    · have hrr := (hsm.2.2.2 _ (List.getElem_mem hlt)).1
      have hst := bestT_step (s := nm) hlt
      have hrg := hiR_rng h4 g.rules[i]
      have hal : ∀ k, k ≤ g.rules[i].right.length → hiR g g.rules[i] k < 0 → hiR g g.rules[i] g.rules[i].right.length = hiR g g.rules[i] k := fun k hk h => hiR_all h hk
      have hsp : ∀ k (hk : k < g.rules[i].right.length), 0 ≤ hiR g g.rules[i] k → _ := fun k hk h => hiR_step hk h
      ((try with_reducible refine mkQI ?_); (repeat ((first | (with_reducible refine mkQU ?_) | simp only [brGen]); try simp (maxSteps := 4000000) +contextual only [↓ S2, S2, vIte, ↓reduceIte, Int.reduceNe, Nat.reduceEqDiff, reduceCtorEq, Nat.reduceLeDiff, Nat.reduceAdd, Nat.reduceLT, hget_c, hset_c, hdel_c, neN, neA_cons, neA_nil, ])); (try simp +contextual (disch := omega) only [Z2, ]); (repeat' (first | (with_reducible intro h) | (with_reducible refine And.intro (by omega) ?_) | (with_reducible refine exP (by omega) ?_) | (with_reducible apply And.intro))))
      all_goals try (exfalso; omega)
      refine wloop mxd (ι := { k : Nat // k ≤ g.rules[i].right.length }) (fun k => [(3, .rop 2 (Gr g)), (4, T nm), (5, I (minH g nm)), (6, I (bestT g nm i)), (7, TS (rulO g nm)), (8, I i), (9, .rop 6 (Ru g.rules[i])), (10, I (hiR g g.rules[i] k.1)), (11, I k.1)]) (fun _ => []) (fun k => g.rules[i].right.length - k.1) ⟨0, by omega⟩ (by simp [E2, hiR]) rfl ?_
      rintro ⟨k, hk⟩
      dsimp only
      have hbk := hrg k
      have fin : hiR g g.rules[i] g.rules[i].right.length = hiR g g.rules[i] k → True := fun _ => trivial
      rcases Nat.lt_or_ge k g.rules[i].right.length with hlt2 | hge2
      · rcases Int.lt_or_le (hiR g g.rules[i] k) 0 with hneg | hpos
        · have h5 := eq_false (p := 0 ≤ hiR g g.rules[i] k) (by omega)
          rw [hal k hk hneg, if_neg (by omega)] at hst
          ((try with_reducible refine mkQI ?_); (repeat ((first | (with_reducible refine mkQU ?_) | simp only [brGen]); try simp (maxSteps := 4000000) +contextual only [↓ S2, S2, vIte, ↓reduceIte, Int.reduceNe, Nat.reduceEqDiff, reduceCtorEq, Nat.reduceLeDiff, Nat.reduceAdd, Nat.reduceLT, hget_c, hset_c, hdel_c, neN, neA_cons, neA_nil, h5, ge_iff_le, decide_false])); (try simp +contextual (disch := omega) only [Z2, h5, ge_iff_le, decide_false]); (repeat' (first | (with_reducible intro h) | (with_reducible refine And.intro (by omega) ?_) | (with_reducible refine exP (by omega) ?_) | (with_reducible apply And.intro))))
          all_goals try (exfalso; omega)
          all_goals exact nx ⟨i + 1, by omega⟩ (by simp <;> omega) (by simp [E2, hst]) rfl
        · have h5 := eq_true (p := 0 ≤ hiR g g.rules[i] k) (by omega)
          have hs2 := hsp k hlt2 hpos
          have hmn := minH_nn g g.rules[i].right[k]
          have hml := minH_le h4 g.rules[i].right[k]
          ((try with_reducible refine mkQI ?_); (repeat ((first | (with_reducible refine mkQU ?_) | simp only [brGen]); try simp (maxSteps := 4000000) +contextual only [↓ S2, S2, vIte, ↓reduceIte, Int.reduceNe, Nat.reduceEqDiff, reduceCtorEq, Nat.reduceLeDiff, Nat.reduceAdd, Nat.reduceLT, hget_c, hset_c, hdel_c, neN, neA_cons, neA_nil, h5, ge_iff_le, decide_true])); (try simp +contextual (disch := omega) only [Z2, h5, ge_iff_le, decide_true]); (repeat' (first | (with_reducible intro h) | (with_reducible refine And.intro (by omega) ?_) | (with_reducible refine exP (by omega) ?_) | (with_reducible apply And.intro))))
          all_goals try (exfalso; omega)
          refine callS.eq (w6 g g.rules[i].right[k] hsm h4) ?_
          ((try with_reducible refine mkQI ?_); (repeat ((first | (with_reducible refine mkQU ?_) | simp only [brGen]); try simp (maxSteps := 4000000) +contextual only [↓ S2, S2, vIte, ↓reduceIte, Int.reduceNe, Nat.reduceEqDiff, reduceCtorEq, Nat.reduceLeDiff, Nat.reduceAdd, Nat.reduceLT, hget_c, hset_c, hdel_c, neN, neA_cons, neA_nil, gt_iff_lt])); (try simp +contextual (disch := omega) only [Z2, gt_iff_lt]); (repeat' (first | (with_reducible intro h) | (with_reducible refine And.intro (by omega) ?_) | (with_reducible refine exP (by omega) ?_) | (with_reducible apply And.intro))))
          all_goals refine nx ⟨k + 1, by omega⟩ (by simp <;> omega) ?_ rfl
          all_goals simp [E2]
          all_goals rw [hs2]
          all_goals repeat' split
          all_goals omega
      · obtain rfl : k = g.rules[i].right.length := by omega
        by_cases hlf : g.rules[i].left = nm
        · simp only [hlf, true_and] at hst
          ((try with_reducible refine mkQI ?_); (repeat ((first | (with_reducible refine mkQU ?_) | simp only [brGen]); try simp (maxSteps := 4000000) +contextual only [↓ S2, S2, vIte, ↓reduceIte, Int.reduceNe, Nat.reduceEqDiff, reduceCtorEq, Nat.reduceLeDiff, Nat.reduceAdd, Nat.reduceLT, hget_c, hset_c, hdel_c, neN, neA_cons, neA_nil, hlf])); (try simp +contextual (disch := omega) only [Z2, hlf]); (repeat' (first | (with_reducible intro h) | (with_reducible refine And.intro (by omega) ?_) | (with_reducible refine exP (by omega) ?_) | (with_reducible apply And.intro))))
          all_goals try (exfalso; omega)
          all_goals refine nx ⟨i + 1, by omega⟩ (by simp <;> omega) ?_ rfl
          all_goals simp [E2]
          all_goals rw [hst]
          all_goals split
          all_goals omega
        · simp only [hlf, false_and, if_false] at hst
          ((try with_reducible refine mkQI ?_); (repeat ((first | (with_reducible refine mkQU ?_) | simp only [brGen]); try simp (maxSteps := 4000000) +contextual only [↓ S2, S2, vIte, ↓reduceIte, Int.reduceNe, Nat.reduceEqDiff, reduceCtorEq, Nat.reduceLeDiff, Nat.reduceAdd, Nat.reduceLT, hget_c, hset_c, hdel_c, neN, neA_cons, neA_nil, hlf])); (try simp +contextual (disch := omega) only [Z2, hlf]); (repeat' (first | (with_reducible intro h) | (with_reducible refine And.intro (by omega) ?_) | (with_reducible refine exP (by omega) ?_) | (with_reducible apply And.intro))))
          all_goals try (exfalso; omega)
          all_goals exact nx ⟨i + 1, by omega⟩ (by simp <;> omega) (by simp [E2, hst]) rfl
    · obtain rfl : i = g.rules.length := by omega
      by_cases hs : hSym g.syms nm = true
      · have hm := minH_best g nm hs
        rw [hm]
        ((try with_reducible refine mkQI ?_); (repeat ((first | (with_reducible refine mkQU ?_) | simp only [brGen]); try simp (maxSteps := 4000000) +contextual only [↓ S2, S2, vIte, ↓reduceIte, Int.reduceNe, Nat.reduceEqDiff, reduceCtorEq, Nat.reduceLeDiff, Nat.reduceAdd, Nat.reduceLT, hget_c, hset_c, hdel_c, neN, neA_cons, neA_nil, ])); (try simp +contextual (disch := omega) only [Z2, ]); (repeat' (first | (with_reducible intro h) | (with_reducible refine And.intro (by omega) ?_) | (with_reducible refine exP (by omega) ?_) | (with_reducible apply And.intro))))
        all_goals try (exfalso; omega)
        refine callS.eq (w10 g nm hsm) ?_
        ((try with_reducible refine mkQI ?_); (repeat ((first | (with_reducible refine mkQU ?_) | simp only [brGen]); try simp (maxSteps := 4000000) +contextual only [↓ S2, S2, vIte, ↓reduceIte, Int.reduceNe, Nat.reduceEqDiff, reduceCtorEq, Nat.reduceLeDiff, Nat.reduceAdd, Nat.reduceLT, hget_c, hset_c, hdel_c, neN, neA_cons, neA_nil, ])); (try simp +contextual (disch := omega) only [Z2, ]); (repeat' (first | (with_reducible intro h) | (with_reducible refine And.intro (by omega) ?_) | (with_reducible refine exP (by omega) ?_) | (with_reducible apply And.intro))))
      · have hs' : hSym g.syms nm = false := by simpa using hs
        have hm := minH_no hs'
        rw [hm]
        ((try with_reducible refine mkQI ?_); (repeat ((first | (with_reducible refine mkQU ?_) | simp only [brGen]); try simp (maxSteps := 4000000) +contextual only [↓ S2, S2, vIte, ↓reduceIte, Int.reduceNe, Nat.reduceEqDiff, reduceCtorEq, Nat.reduceLeDiff, Nat.reduceAdd, Nat.reduceLT, hget_c, hset_c, hdel_c, neN, neA_cons, neA_nil, ])); (try simp +contextual (disch := omega) only [Z2, ]); (repeat' (first | (with_reducible intro h) | (with_reducible refine And.intro (by omega) ?_) | (with_reducible refine exP (by omega) ?_) | (with_reducible apply And.intro))))
        all_goals try (exfalso; omega)
        refine callS.eq (w10 g nm hsm) ?_
        ((try with_reducible refine mkQI ?_); (repeat ((first | (with_reducible refine mkQU ?_) | simp only [brGen]); try simp (maxSteps := 4000000) +contextual only [↓ S2, S2, vIte, ↓reduceIte, Int.reduceNe, Nat.reduceEqDiff, reduceCtorEq, Nat.reduceLeDiff, Nat.reduceAdd, Nat.reduceLT, hget_c, hset_c, hdel_c, neN, neA_cons, neA_nil, hs'])); (try simp +contextual (disch := omega) only [Z2, hs']); (repeat' (first | (with_reducible intro h) | (with_reducible refine And.intro (by omega) ?_) | (with_reducible refine exP (by omega) ?_) | (with_reducible apply And.intro))))
end Go.Proofs.Ytkmedfejmndmjaa

