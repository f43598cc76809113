/- The law FnExactTreeCycle returns true whatever the input, and the input reads behind the call as before. No condition. -/
import Derived.Test.YtbdmpkidcpblaaaGreatCyc8
namespace Go.Proofs.YtbdmpkidcpblaaaGreat
open Go.Gh
set_option maxRecDepth 20000
set_option linter.unusedSimpArgs false
set_option linter.unusedVariables false
set_option maxHeartbeats 4000000 in
theorem w116 (g : Gram) (t : List Nod) (x : Int × ByteArray) (hg : smGr g) (hl : t.length ≤ 1048576) : Pure Tryz.prog 116 [Gr g, Tr t, Ins x] (· = .tup [DfG (defO g t x) (defE g t x), B (defB g t x)]) := by
  refine Pure.bor ?_
  have hz : Bor [] (.tup [.agg [I 0, I 0, I 0, I 0, I 0, T noS, T noS, .val (.slice none 0 0)], B false]) (.tup [DfG 0 expZ, B false]) := .tup (.cons (.agg (.cons .refl (.cons .refl (.cons .refl (.cons .refl (.cons .refl (.cons .refl (.cons .refl (.cons .nil .nil))))))))) (.cons .refl .nil))
  refine gstart mxd i116 rfl (by simp) ?_; simp (maxSteps := 2000000) only [↓ S2, S2, vIte, ↓reduceIte, Int.reduceNe, Nat.reduceEqDiff, reduceCtorEq, Nat.reduceLeDiff, Nat.reduceAdd, Nat.reduceLT]
  refine callS.eq (w184 g t x hg) ?_
  ((try with_reducible refine mkQI ?_); (repeat ((first | (with_reducible refine mkQU ?_) | simp only [brGen]); try simp (maxSteps := 4000000) +contextual only [↓ S2, S2, vIte, ↓reduceIte, Int.reduceNe, Nat.reduceEqDiff, reduceCtorEq, Nat.reduceLeDiff, Nat.reduceAdd, Nat.reduceLT, hget_c, hset_c, hdel_c, neN, neA_cons, neA_nil, ])); (try simp +contextual (disch := omega) only [Z2, ]); (repeat' (first | (with_reducible intro h) | (with_reducible refine And.intro (by omega) ?_) | (with_reducible refine exP (by omega) ?_) | (with_reducible apply And.intro))))
  refine callS.eq (w185 t x.1) ?_
  by_cases h1 : hasN g t x.1 x.2 = true
  · obtain ⟨hi1, hi2⟩ := hasN_ix h1
    obtain ⟨n, hin⟩ : ∃ n : Nat, ixOf (fun y : Nod => decide (y.id = x.1)) t = n := ⟨(ixOf (fun y : Nod => decide (y.id = x.1)) t).toNat, by omega⟩
    have hn : n < t.length := by omega
    by_cases h2 : (attN g t x.1 x.2).mode = 3
    · have hB : defB g t x = false := by simp [defB, h2]
      simp only [defO, defE, hB]
      ((try with_reducible refine mkQI ?_); (repeat ((first | (with_reducible refine mkQU ?_) | simp only [brGen]); try simp (maxSteps := 4000000) +contextual only [↓ S2, S2, vIte, ↓reduceIte, Int.reduceNe, Nat.reduceEqDiff, reduceCtorEq, Nat.reduceLeDiff, Nat.reduceAdd, Nat.reduceLT, hget_c, hset_c, hdel_c, neN, neA_cons, neA_nil, h1, h2])); (try simp +contextual (disch := omega) only [Z2, h1, h2]); (repeat' (first | (with_reducible intro h) | (with_reducible refine And.intro (by omega) ?_) | (with_reducible refine exP (by omega) ?_) | (with_reducible apply And.intro))))
      all_goals first | exact hz | (exfalso; omega)
    by_cases h3 : (attN g t x.1 x.2).mode = 1
    · have ho : ownN g t x = (t[n].parent, t[n].place) := by simp only [ownN, if_pos h3, hin, Int.toNat_natCast]; rw [getD_lt hn]
      by_cases hr : 0 ≤ t[n].parent ∧ t[n].parent < t.length
      · obtain ⟨m, hm⟩ : ∃ m : Nat, t[n].parent = m := ⟨(t[n].parent).toNat, by omega⟩
        have hmt : m < t.length := by omega
        have hrr : 0 ≤ (m : Int) ∧ (m : Int) ≤ t.length - 1 := by omega
        have hgt : t.getD m nodZ = t[m] := getD_lt hmt
        ((try with_reducible refine mkQI ?_); (repeat ((first | (with_reducible refine mkQU ?_) | simp only [brGen]); try simp (maxSteps := 4000000) +contextual only [↓ S2, S2, vIte, ↓reduceIte, Int.reduceNe, Nat.reduceEqDiff, reduceCtorEq, Nat.reduceLeDiff, Nat.reduceAdd, Nat.reduceLT, hget_c, hset_c, hdel_c, neN, neA_cons, neA_nil, h1, h2, h3, hin])); (try simp +contextual (disch := omega) only [Z2, h1, h2, h3, hin]); (repeat' (first | (with_reducible intro h) | (with_reducible refine And.intro (by omega) ?_) | (with_reducible refine exP (by omega) ?_) | (with_reducible apply And.intro))))
        all_goals try (exfalso; omega)
        refine callS.eq (w85 _ _ _) ?_
        ((try with_reducible refine mkQI ?_); (repeat ((first | (with_reducible refine mkQU ?_) | simp only [brGen]); try simp (maxSteps := 4000000) +contextual only [↓ S2, S2, vIte, ↓reduceIte, Int.reduceNe, Nat.reduceEqDiff, reduceCtorEq, Nat.reduceLeDiff, Nat.reduceAdd, Nat.reduceLT, hget_c, hset_c, hdel_c, neN, neA_cons, neA_nil, hm, hrr])); (try simp +contextual (disch := omega) only [Z2, hm, hrr]); (repeat' (first | (with_reducible intro h) | (with_reducible refine And.intro (by omega) ?_) | (with_reducible refine exP (by omega) ?_) | (with_reducible apply And.intro))))
        all_goals try (exfalso; omega)
        refine callS.eq (w183 g _ hg) ?_
        ((try with_reducible refine mkQI ?_); (repeat ((first | (with_reducible refine mkQU ?_) | simp only [brGen]); try simp (maxSteps := 4000000) +contextual only [↓ S2, S2, vIte, ↓reduceIte, Int.reduceNe, Nat.reduceEqDiff, reduceCtorEq, Nat.reduceLeDiff, Nat.reduceAdd, Nat.reduceLT, hget_c, hset_c, hdel_c, neN, neA_cons, neA_nil, hm])); (try simp +contextual (disch := omega) only [Z2, hm]); (repeat' (first | (with_reducible intro h) | (with_reducible refine And.intro (by omega) ?_) | (with_reducible refine exP (by omega) ?_) | (with_reducible apply And.intro))))
        all_goals try (exfalso; omega)
        refine callS.eq (w186 (fRul g.rules t[m].rule) (t[n].place, x.2) (smRu_f hg _)) ?_
        by_cases h5 : (eqnF (fRul g.rules t[m].rule) (t[n].place, x.2)).isSome = true
        · have hB : defB g t x = true := by simp [defB, h1, h2, ho, hm, h5, hmt, hgt]
          have hE : defE g t x = eqnE (fRul g.rules t[m].rule) (t[n].place, x.2) := by simp only [defE, hB, if_true, ho, hm, Int.toNat_natCast, hgt]
          have hO : defO g t x = m := by simp only [defO, hB, if_true, ho, hm]
          rw [hE, hO, hB]
          ((try with_reducible refine mkQI ?_); (repeat ((first | (with_reducible refine mkQU ?_) | simp only [brGen]); try simp (maxSteps := 4000000) +contextual only [↓ S2, S2, vIte, ↓reduceIte, Int.reduceNe, Nat.reduceEqDiff, reduceCtorEq, Nat.reduceLeDiff, Nat.reduceAdd, Nat.reduceLT, hget_c, hset_c, hdel_c, neN, neA_cons, neA_nil, h5, hm, XE])); (try simp +contextual (disch := omega) only [Z2, h5, hm, XE]); (repeat' (first | (with_reducible intro h) | (with_reducible refine And.intro (by omega) ?_) | (with_reducible refine exP (by omega) ?_) | (with_reducible apply And.intro))))
          first | exact .refl | (rw [Ex_eq]; exact .refl)
        · have h5' : (eqnF (fRul g.rules t[m].rule) (t[n].place, x.2)).isSome = false := by simpa using h5
          have hB : defB g t x = false := by simp only [defB, ho, hm, Int.toNat_natCast, hgt, h5', Bool.and_false]
          simp only [defO, defE, hB]
          ((try with_reducible refine mkQI ?_); (repeat ((first | (with_reducible refine mkQU ?_) | simp only [brGen]); try simp (maxSteps := 4000000) +contextual only [↓ S2, S2, vIte, ↓reduceIte, Int.reduceNe, Nat.reduceEqDiff, reduceCtorEq, Nat.reduceLeDiff, Nat.reduceAdd, Nat.reduceLT, hget_c, hset_c, hdel_c, neN, neA_cons, neA_nil, h5', XE])); (try simp +contextual (disch := omega) only [Z2, h5', XE]); (repeat' (first | (with_reducible intro h) | (with_reducible refine And.intro (by omega) ?_) | (with_reducible refine exP (by omega) ?_) | (with_reducible apply And.intro))))
          exact hz
      · have hr1 : ¬ (0 ≤ t[n].parent ∧ t[n].parent ≤ t.length - 1) := by omega
        have hB : defB g t x = false := by simp only [defB, ho, decide_eq_false hr, Bool.and_false, Bool.false_and]
        simp only [defO, defE, hB]
        ((try with_reducible refine mkQI ?_); (repeat ((first | (with_reducible refine mkQU ?_) | simp only [brGen]); try simp (maxSteps := 4000000) +contextual only [↓ S2, S2, vIte, ↓reduceIte, Int.reduceNe, Nat.reduceEqDiff, reduceCtorEq, Nat.reduceLeDiff, Nat.reduceAdd, Nat.reduceLT, hget_c, hset_c, hdel_c, neN, neA_cons, neA_nil, h1, h2, h3, hin])); (try simp +contextual (disch := omega) only [Z2, h1, h2, h3, hin]); (repeat' (first | (with_reducible intro h) | (with_reducible refine And.intro (by omega) ?_) | (with_reducible refine exP (by omega) ?_) | (with_reducible apply And.intro))))
        all_goals try (exfalso; omega)
        refine callS.eq (w85 _ _ _) ?_
        ((try with_reducible refine mkQI ?_); (repeat ((first | (with_reducible refine mkQU ?_) | simp only [brGen]); try simp (maxSteps := 4000000) +contextual only [↓ S2, S2, vIte, ↓reduceIte, Int.reduceNe, Nat.reduceEqDiff, reduceCtorEq, Nat.reduceLeDiff, Nat.reduceAdd, Nat.reduceLT, hget_c, hset_c, hdel_c, neN, neA_cons, neA_nil, hr1])); (try simp +contextual (disch := omega) only [Z2, hr1]); (repeat' (first | (with_reducible intro h) | (with_reducible refine And.intro (by omega) ?_) | (with_reducible refine exP (by omega) ?_) | (with_reducible apply And.intro))))
        exact hz
    · have ho : ownN g t x = ((n : Int), 0) := by simp only [ownN, if_neg h3, hin]
      by_cases hr : 0 ≤ (n : Int) ∧ (n : Int) < t.length
      · obtain ⟨m, hm⟩ : ∃ m : Nat, (n : Int) = m := ⟨((n : Int)).toNat, by omega⟩
        have hmt : m < t.length := by omega
        have hrr : 0 ≤ (m : Int) ∧ (m : Int) ≤ t.length - 1 := by omega
        have hgt : t.getD m nodZ = t[m] := getD_lt hmt
        ((try with_reducible refine mkQI ?_); (repeat ((first | (with_reducible refine mkQU ?_) | simp only [brGen]); try simp (maxSteps := 4000000) +contextual only [↓ S2, S2, vIte, ↓reduceIte, Int.reduceNe, Nat.reduceEqDiff, reduceCtorEq, Nat.reduceLeDiff, Nat.reduceAdd, Nat.reduceLT, hget_c, hset_c, hdel_c, neN, neA_cons, neA_nil, h1, h2, h3, hin])); (try simp +contextual (disch := omega) only [Z2, h1, h2, h3, hin]); (repeat' (first | (with_reducible intro h) | (with_reducible refine And.intro (by omega) ?_) | (with_reducible refine exP (by omega) ?_) | (with_reducible apply And.intro))))
        all_goals try (exfalso; omega)
        refine callS.eq (w85 _ _ _) ?_
        ((try with_reducible refine mkQI ?_); (repeat ((first | (with_reducible refine mkQU ?_) | simp only [brGen]); try simp (maxSteps := 4000000) +contextual only [↓ S2, S2, vIte, ↓reduceIte, Int.reduceNe, Nat.reduceEqDiff, reduceCtorEq, Nat.reduceLeDiff, Nat.reduceAdd, Nat.reduceLT, hget_c, hset_c, hdel_c, neN, neA_cons, neA_nil, hm, hrr])); (try simp +contextual (disch := omega) only [Z2, hm, hrr]); (repeat' (first | (with_reducible intro h) | (with_reducible refine And.intro (by omega) ?_) | (with_reducible refine exP (by omega) ?_) | (with_reducible apply And.intro))))
        all_goals try (exfalso; omega)
        refine callS.eq (w183 g _ hg) ?_
        ((try with_reducible refine mkQI ?_); (repeat ((first | (with_reducible refine mkQU ?_) | simp only [brGen]); try simp (maxSteps := 4000000) +contextual only [↓ S2, S2, vIte, ↓reduceIte, Int.reduceNe, Nat.reduceEqDiff, reduceCtorEq, Nat.reduceLeDiff, Nat.reduceAdd, Nat.reduceLT, hget_c, hset_c, hdel_c, neN, neA_cons, neA_nil, hm])); (try simp +contextual (disch := omega) only [Z2, hm]); (repeat' (first | (with_reducible intro h) | (with_reducible refine And.intro (by omega) ?_) | (with_reducible refine exP (by omega) ?_) | (with_reducible apply And.intro))))
        all_goals try (exfalso; omega)
        refine callS.eq (w186 (fRul g.rules t[m].rule) ((0 : Int), x.2) (smRu_f hg _)) ?_
        by_cases h5 : (eqnF (fRul g.rules t[m].rule) ((0 : Int), x.2)).isSome = true
        · have hB : defB g t x = true := by simp [defB, h1, h2, ho, hm, h5, hmt, hgt]
          have hE : defE g t x = eqnE (fRul g.rules t[m].rule) ((0 : Int), x.2) := by simp only [defE, hB, if_true, ho, hm, Int.toNat_natCast, hgt]
          have hO : defO g t x = m := by simp only [defO, hB, if_true, ho, hm]
          rw [hE, hO, hB]
          ((try with_reducible refine mkQI ?_); (repeat ((first | (with_reducible refine mkQU ?_) | simp only [brGen]); try simp (maxSteps := 4000000) +contextual only [↓ S2, S2, vIte, ↓reduceIte, Int.reduceNe, Nat.reduceEqDiff, reduceCtorEq, Nat.reduceLeDiff, Nat.reduceAdd, Nat.reduceLT, hget_c, hset_c, hdel_c, neN, neA_cons, neA_nil, h5, hm, XE])); (try simp +contextual (disch := omega) only [Z2, h5, hm, XE]); (repeat' (first | (with_reducible intro h) | (with_reducible refine And.intro (by omega) ?_) | (with_reducible refine exP (by omega) ?_) | (with_reducible apply And.intro))))
          first | exact .refl | (rw [Ex_eq]; exact .refl)
        · have h5' : (eqnF (fRul g.rules t[m].rule) ((0 : Int), x.2)).isSome = false := by simpa using h5
          have hB : defB g t x = false := by simp only [defB, ho, hm, Int.toNat_natCast, hgt, h5', Bool.and_false]
          simp only [defO, defE, hB]
          ((try with_reducible refine mkQI ?_); (repeat ((first | (with_reducible refine mkQU ?_) | simp only [brGen]); try simp (maxSteps := 4000000) +contextual only [↓ S2, S2, vIte, ↓reduceIte, Int.reduceNe, Nat.reduceEqDiff, reduceCtorEq, Nat.reduceLeDiff, Nat.reduceAdd, Nat.reduceLT, hget_c, hset_c, hdel_c, neN, neA_cons, neA_nil, h5', XE])); (try simp +contextual (disch := omega) only [Z2, h5', XE]); (repeat' (first | (with_reducible intro h) | (with_reducible refine And.intro (by omega) ?_) | (with_reducible refine exP (by omega) ?_) | (with_reducible apply And.intro))))
          exact hz
      · exfalso; omega
  · have h1' : hasN g t x.1 x.2 = false := by simpa using h1
    have hB : defB g t x = false := by simp [defB, h1']
    simp only [defO, defE, hB]
    ((try with_reducible refine mkQI ?_); (repeat ((first | (with_reducible refine mkQU ?_) | simp only [brGen]); try simp (maxSteps := 4000000) +contextual only [↓ S2, S2, vIte, ↓reduceIte, Int.reduceNe, Nat.reduceEqDiff, reduceCtorEq, Nat.reduceLeDiff, Nat.reduceAdd, Nat.reduceLT, hget_c, hset_c, hdel_c, neN, neA_cons, neA_nil, h1'])); (try simp +contextual (disch := omega) only [Z2, h1']); (repeat' (first | (with_reducible intro h) | (with_reducible refine And.intro (by omega) ?_) | (with_reducible refine exP (by omega) ?_) | (with_reducible apply And.intro))))
    all_goals first | exact hz | (exfalso; omega)
end Go.Proofs.YtbdmpkidcpblaaaGreat

