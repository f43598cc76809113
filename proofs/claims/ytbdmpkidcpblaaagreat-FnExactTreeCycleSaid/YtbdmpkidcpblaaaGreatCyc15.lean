/- The law FnExactTreeCycle returns true whatever the input, and the input reads behind the call as before. No condition. -/
import Derived.Test.YtbdmpkidcpblaaaGreatCyc14
namespace Go.Proofs.YtbdmpkidcpblaaaGreat
open Go.Gh
set_option maxRecDepth 20000
set_option linter.unusedSimpArgs false
set_option linter.unusedVariables false
set_option maxHeartbeats 2000000 in
theorem o63 (g : Gram) (t : List Nod) (x : Int × ByteArray) (hg : smGr g) (hl : t.length ≤ 1048576) (hk : ∀ x ∈ t, x.kids.length ≤ 1048576) (H : GH) : GCalls Tryz.prog 63 [Gr g, Tr t, Ins x] H (fun v H' => ∃ H1, (∃ r, v = .own r 2 0 (stI g t x).length ∧ H1 = [(r, 2, (stI g t x).map Ins)]) ∧ H' = H1 ++ H) := by
  refine gstart mxd i63 rfl (by simp) ?_; simp (maxSteps := 2000000) only [↓ S2, S2, vIte, ↓reduceIte, Int.reduceNe, Nat.reduceEqDiff, reduceCtorEq, Nat.reduceLeDiff, Nat.reduceAdd, Nat.reduceLT]
  ((try with_reducible refine mkQI ?_); (repeat ((first | (with_reducible refine mkQU ?_) | simp only [brGen]); try simp (maxSteps := 4000000) +contextual only [↓ S2, S2, vIte, ↓reduceIte, Int.reduceNe, Nat.reduceEqDiff, reduceCtorEq, Nat.reduceLeDiff, Nat.reduceAdd, Nat.reduceLT, hget_c, hset_c, hdel_c, neN, neA_cons, neA_nil, ])); (try simp +contextual (disch := omega) only [Z2, ]); (repeat' (first | (with_reducible intro h) | (with_reducible refine And.intro (by omega) ?_) | (with_reducible refine exP (by omega) ?_) | (with_reducible apply And.intro))))
  rename_i r0
  refine callS.eq (w116 g t x hg hl) ?_
  by_cases hB : defB g t x = true
  · have hul := usE_sm (defE_small hg t x)
    ((try with_reducible refine mkQI ?_); (repeat ((first | (with_reducible refine mkQU ?_) | simp only [brGen]); try simp (maxSteps := 4000000) +contextual only [↓ S2, S2, vIte, ↓reduceIte, Int.reduceNe, Nat.reduceEqDiff, reduceCtorEq, Nat.reduceLeDiff, Nat.reduceAdd, Nat.reduceLT, hget_c, hset_c, hdel_c, neN, neA_cons, neA_nil, hB])); (try simp +contextual (disch := omega) only [Z2, hB]); (repeat' (first | (with_reducible intro h) | (with_reducible refine And.intro (by omega) ?_) | (with_reducible refine exP (by omega) ?_) | (with_reducible apply And.intro))))
    have hq := w128 (defE g t x) (defE_small hg t x)
    rw [Ex_eq] at hq
    refine callS.eq hq ?_
    clear hq
    have hst : stI g t x = (usE (defE g t x) []).filterMap (stF t (defO g t x)) := rfl
    rw [hst]
    generalize usE (defE g t x) [] = U at *
    generalize defE g t x = e at *
    generalize defO g t x = o at *
    ((try with_reducible refine mkQI ?_); (repeat ((first | (with_reducible refine mkQU ?_) | simp only [brGen]); try simp (maxSteps := 4000000) +contextual only [↓ S2, S2, vIte, ↓reduceIte, Int.reduceNe, Nat.reduceEqDiff, reduceCtorEq, Nat.reduceLeDiff, Nat.reduceAdd, Nat.reduceLT, hget_c, hset_c, hdel_c, neN, neA_cons, neA_nil, ])); (try simp +contextual (disch := omega) only [Z2, ]); (repeat' (first | (with_reducible intro h) | (with_reducible refine And.intro (by omega) ?_) | (with_reducible refine exP (by omega) ?_) | (with_reducible apply And.intro))))
    refine wloopN mxd (ι := { y : Nat × Nat // y.2 ≤ U.length }) (fun y => [(3, .rop 2 (Gr g)), (4, .rop 1 (Tr t)), (7, .own y.1.1 2 0 ((U.take y.1.2).filterMap (stF t o)).length), (8, .rop 8 (DfG o e)), (10, OcS U), (11, I y.1.2)]) (fun y => (y.1.1, 2, ((U.take y.1.2).filterMap (stF t o)).map Ins) :: H) (fun y => U.length - y.1.2) ⟨(r0, 0), by simp⟩ (by simp [E2]) (by simp) ?_
    rintro ⟨⟨q, i⟩, hi⟩ hn
    dsimp only at hi hn ⊢
    replace hn := neH_of hn
    (replace hn := hn; simp only [neH_cons, neH_nil, neA_cons, neA_nil, and_true, true_and] at hn)
    have hfl := List.length_filterMap_le (stF t o) (U.take i)
    simp only [List.length_take] at hfl
    rcases Nat.lt_or_ge i U.length with hlt | hge
    · have hs := fm_step (stF t o) hlt
      ((try with_reducible refine mkQI ?_); (repeat ((first | (with_reducible refine mkQU ?_) | simp only [brGen]); try simp (maxSteps := 4000000) +contextual only [↓ S2, S2, vIte, ↓reduceIte, Int.reduceNe, Nat.reduceEqDiff, reduceCtorEq, Nat.reduceLeDiff, Nat.reduceAdd, Nat.reduceLT, hget_c, hset_c, hdel_c, neN, neA_cons, neA_nil, hn])); (try simp +contextual (disch := omega) only [Z2, hn]); (repeat' (first | (with_reducible intro h) | (with_reducible refine And.intro (by omega) ?_) | (with_reducible refine exP (by omega) ?_) | (with_reducible apply And.intro))))
      all_goals try (exfalso; omega)
      refine callS.eq (w129 g t o U[i] hk) ?_
      by_cases hx : (instAt t o U[i]).2 = true
      · have hf : stF t o U[i] = some (instAt t o U[i]).1 := by simp [stF, hx]
        rw [hf] at hs
        ((try with_reducible refine mkQI ?_); (repeat ((first | (with_reducible refine mkQU ?_) | simp only [brGen]); try simp (maxSteps := 4000000) +contextual only [↓ S2, S2, vIte, ↓reduceIte, Int.reduceNe, Nat.reduceEqDiff, reduceCtorEq, Nat.reduceLeDiff, Nat.reduceAdd, Nat.reduceLT, hget_c, hset_c, hdel_c, neN, neA_cons, neA_nil, hn, hx, List.length_append, List.length_singleton, List.length_map, maxLv])); (try simp +contextual (disch := omega) only [Z2, hn, hx, List.length_append, List.length_singleton, List.length_map, maxLv]); (repeat' (first | (with_reducible intro h) | (with_reducible refine And.intro (by omega) ?_) | (with_reducible refine exP (by omega) ?_) | (with_reducible apply And.intro))))
        all_goals try (exfalso; omega)
        rename_i r3 _ r4
        refine nxF ⟨(r4, i + 1), by omega⟩ (by simp; omega) (FE.perm (H := [_, _]) (L := [(r4, _)]) (by repeat' (first | exact trivial | (refine And.intro (by simp only [hget_c, *, if_true, if_false]; try rfl) (And.intro (by simp [names_cons, names_nil, *]) ?_))))) (by simp [E2, hs]) ?_
        rw [hs, List.take_of_length_le (by simp), List.map_append]
        rfl
      · have hx' : (instAt t o U[i]).2 = false := by simpa using hx
        have hf : stF t o U[i] = none := by simp [stF, hx']
        rw [hf] at hs
        ((try with_reducible refine mkQI ?_); (repeat ((first | (with_reducible refine mkQU ?_) | simp only [brGen]); try simp (maxSteps := 4000000) +contextual only [↓ S2, S2, vIte, ↓reduceIte, Int.reduceNe, Nat.reduceEqDiff, reduceCtorEq, Nat.reduceLeDiff, Nat.reduceAdd, Nat.reduceLT, hget_c, hset_c, hdel_c, neN, neA_cons, neA_nil, hn, hx'])); (try simp +contextual (disch := omega) only [Z2, hn, hx']); (repeat' (first | (with_reducible intro h) | (with_reducible refine And.intro (by omega) ?_) | (with_reducible refine exP (by omega) ?_) | (with_reducible apply And.intro))))
        exact nx ⟨(q, i + 1), by omega⟩ (by simp; omega) (by simp [E2, hs]) (by simp [hs])
    · obtain rfl : i = U.length := by omega
      ((try with_reducible refine mkQI ?_); (repeat ((first | (with_reducible refine mkQU ?_) | simp only [brGen]); try simp (maxSteps := 4000000) +contextual only [↓ S2, S2, vIte, ↓reduceIte, Int.reduceNe, Nat.reduceEqDiff, reduceCtorEq, Nat.reduceLeDiff, Nat.reduceAdd, Nat.reduceLT, hget_c, hset_c, hdel_c, neN, neA_cons, neA_nil, hn])); (try simp +contextual (disch := omega) only [Z2, hn]); (repeat' (first | (with_reducible intro h) | (with_reducible refine And.intro (by omega) ?_) | (with_reducible refine exP (by omega) ?_) | (with_reducible apply And.intro))))
      all_goals try (exfalso; omega)
      rw [List.take_length]
      exact ⟨_, ⟨q, rfl, rfl⟩, rfl⟩
  · have hB' : defB g t x = false := by simpa using hB
    rw [stI_no hB']
    ((try with_reducible refine mkQI ?_); (repeat ((first | (with_reducible refine mkQU ?_) | simp only [brGen]); try simp (maxSteps := 4000000) +contextual only [↓ S2, S2, vIte, ↓reduceIte, Int.reduceNe, Nat.reduceEqDiff, reduceCtorEq, Nat.reduceLeDiff, Nat.reduceAdd, Nat.reduceLT, hget_c, hset_c, hdel_c, neN, neA_cons, neA_nil, hB'])); (try simp +contextual (disch := omega) only [Z2, hB']); (repeat' (first | (with_reducible intro h) | (with_reducible refine And.intro (by omega) ?_) | (with_reducible refine exP (by omega) ?_) | (with_reducible apply And.intro))))
    exact ⟨_, ⟨r0, rfl, rfl⟩, rfl⟩
set_option maxHeartbeats 2000000 in
theorem o75 (g : Gram) (t : List Nod) (x : Int × ByteArray) (hg : smGr g) (hl : t.length ≤ 1048576) (hk : ∀ x ∈ t, x.kids.length ≤ 1048576) (H : GH) : GCalls Tryz.prog 75 [Gr g, Tr t, Ins x] H (fun v H' => ∃ H1, (∃ r, v = .own r 2 0 (stI g t x).length ∧ H1 = [(r, 2, (stI g t x).map Ins)]) ∧ H' = H1 ++ H) := by
  refine gstart mxd i75 rfl (by simp) ?_; simp (maxSteps := 2000000) only [↓ S2, S2, vIte, ↓reduceIte, Int.reduceNe, Nat.reduceEqDiff, reduceCtorEq, Nat.reduceLeDiff, Nat.reduceAdd, Nat.reduceLT]
  ((try with_reducible refine mkQI ?_); (repeat ((first | (with_reducible refine mkQU ?_) | simp only [brGen]); try simp (maxSteps := 4000000) +contextual only [↓ S2, S2, vIte, ↓reduceIte, Int.reduceNe, Nat.reduceEqDiff, reduceCtorEq, Nat.reduceLeDiff, Nat.reduceAdd, Nat.reduceLT, hget_c, hset_c, hdel_c, neN, neA_cons, neA_nil, ])); (try simp +contextual (disch := omega) only [Z2, ]); (repeat' (first | (with_reducible intro h) | (with_reducible refine And.intro (by omega) ?_) | (with_reducible refine exP (by omega) ?_) | (with_reducible apply And.intro))))
  rename_i r0
  refine callS.eq (q138 g t x hg hl) ?_
  by_cases hB : defB g t x = true
  · have hul := usE_sm (defE_small hg t x)
    ((try with_reducible refine mkQI ?_); (repeat ((first | (with_reducible refine mkQU ?_) | simp only [brGen]); try simp (maxSteps := 4000000) +contextual only [↓ S2, S2, vIte, ↓reduceIte, Int.reduceNe, Nat.reduceEqDiff, reduceCtorEq, Nat.reduceLeDiff, Nat.reduceAdd, Nat.reduceLT, hget_c, hset_c, hdel_c, neN, neA_cons, neA_nil, hB])); (try simp +contextual (disch := omega) only [Z2, hB]); (repeat' (first | (with_reducible intro h) | (with_reducible refine And.intro (by omega) ?_) | (with_reducible refine exP (by omega) ?_) | (with_reducible apply And.intro))))
    have hq := q139 (defE g t x) (defE_small hg t x)
    rw [Ex_eq] at hq
    refine callS.eq hq ?_
    clear hq
    have hst : stI g t x = (usE (defE g t x) []).filterMap (stF t (defO g t x)) := rfl
    rw [hst]
    generalize usE (defE g t x) [] = U at *
    generalize defE g t x = e at *
    generalize defO g t x = o at *
    ((try with_reducible refine mkQI ?_); (repeat ((first | (with_reducible refine mkQU ?_) | simp only [brGen]); try simp (maxSteps := 4000000) +contextual only [↓ S2, S2, vIte, ↓reduceIte, Int.reduceNe, Nat.reduceEqDiff, reduceCtorEq, Nat.reduceLeDiff, Nat.reduceAdd, Nat.reduceLT, hget_c, hset_c, hdel_c, neN, neA_cons, neA_nil, ])); (try simp +contextual (disch := omega) only [Z2, ]); (repeat' (first | (with_reducible intro h) | (with_reducible refine And.intro (by omega) ?_) | (with_reducible refine exP (by omega) ?_) | (with_reducible apply And.intro))))
    refine wloopN mxd (ι := { y : Nat × Nat // y.2 ≤ U.length }) (fun y => [(3, .rop 2 (Gr g)), (4, .rop 1 (Tr t)), (7, .own y.1.1 2 0 ((U.take y.1.2).filterMap (stF t o)).length), (8, .rop 8 (DfG o e)), (27, OcS U), (28, I U.length), (29, I y.1.2)]) (fun y => (y.1.1, 2, ((U.take y.1.2).filterMap (stF t o)).map Ins) :: H) (fun y => U.length - y.1.2) ⟨(r0, 0), by simp⟩ (by simp [E2]) (by simp) ?_
    rintro ⟨⟨q, i⟩, hi⟩ hn
    dsimp only at hi hn ⊢
    replace hn := neH_of hn
    (replace hn := hn; simp only [neH_cons, neH_nil, neA_cons, neA_nil, and_true, true_and] at hn)
    have hfl := List.length_filterMap_le (stF t o) (U.take i)
    simp only [List.length_take] at hfl
    rcases Nat.lt_or_ge i U.length with hlt | hge
    · have hs := fm_step (stF t o) hlt
      ((try with_reducible refine mkQI ?_); (repeat ((first | (with_reducible refine mkQU ?_) | simp only [brGen]); try simp (maxSteps := 4000000) +contextual only [↓ S2, S2, vIte, ↓reduceIte, Int.reduceNe, Nat.reduceEqDiff, reduceCtorEq, Nat.reduceLeDiff, Nat.reduceAdd, Nat.reduceLT, hget_c, hset_c, hdel_c, neN, neA_cons, neA_nil, hn])); (try simp +contextual (disch := omega) only [Z2, hn]); (repeat' (first | (with_reducible intro h) | (with_reducible refine And.intro (by omega) ?_) | (with_reducible refine exP (by omega) ?_) | (with_reducible apply And.intro))))
      all_goals try (exfalso; omega)
      refine callS.eq (w140 g t o U[i] hk) ?_
      by_cases hx : (instAt t o U[i]).2 = true
      · have hf : stF t o U[i] = some (instAt t o U[i]).1 := by simp [stF, hx]
        rw [hf] at hs
        ((try with_reducible refine mkQI ?_); (repeat ((first | (with_reducible refine mkQU ?_) | simp only [brGen]); try simp (maxSteps := 4000000) +contextual only [↓ S2, S2, vIte, ↓reduceIte, Int.reduceNe, Nat.reduceEqDiff, reduceCtorEq, Nat.reduceLeDiff, Nat.reduceAdd, Nat.reduceLT, hget_c, hset_c, hdel_c, neN, neA_cons, neA_nil, hn, hx, List.length_append, List.length_singleton, List.length_map, maxLv])); (try simp +contextual (disch := omega) only [Z2, hn, hx, List.length_append, List.length_singleton, List.length_map, maxLv]); (repeat' (first | (with_reducible intro h) | (with_reducible refine And.intro (by omega) ?_) | (with_reducible refine exP (by omega) ?_) | (with_reducible apply And.intro))))
        all_goals try (exfalso; omega)
        rename_i r3 _ r4
        refine nxF ⟨(r4, i + 1), by omega⟩ (by simp; omega) (FE.perm (H := [_, _]) (L := [(r4, _)]) (by repeat' (first | exact trivial | (refine And.intro (by simp only [hget_c, *, if_true, if_false]; try rfl) (And.intro (by simp [names_cons, names_nil, *]) ?_))))) (by simp [E2, hs]) ?_
        rw [hs, List.take_of_length_le (by simp), List.map_append]
        rfl
      · have hx' : (instAt t o U[i]).2 = false := by simpa using hx
        have hf : stF t o U[i] = none := by simp [stF, hx']
        rw [hf] at hs
        ((try with_reducible refine mkQI ?_); (repeat ((first | (with_reducible refine mkQU ?_) | simp only [brGen]); try simp (maxSteps := 4000000) +contextual only [↓ S2, S2, vIte, ↓reduceIte, Int.reduceNe, Nat.reduceEqDiff, reduceCtorEq, Nat.reduceLeDiff, Nat.reduceAdd, Nat.reduceLT, hget_c, hset_c, hdel_c, neN, neA_cons, neA_nil, hn, hx'])); (try simp +contextual (disch := omega) only [Z2, hn, hx']); (repeat' (first | (with_reducible intro h) | (with_reducible refine And.intro (by omega) ?_) | (with_reducible refine exP (by omega) ?_) | (with_reducible apply And.intro))))
        exact nx ⟨(q, i + 1), by omega⟩ (by simp; omega) (by simp [E2, hs]) (by simp [hs])
    · obtain rfl : i = U.length := by omega
      ((try with_reducible refine mkQI ?_); (repeat ((first | (with_reducible refine mkQU ?_) | simp only [brGen]); try simp (maxSteps := 4000000) +contextual only [↓ S2, S2, vIte, ↓reduceIte, Int.reduceNe, Nat.reduceEqDiff, reduceCtorEq, Nat.reduceLeDiff, Nat.reduceAdd, Nat.reduceLT, hget_c, hset_c, hdel_c, neN, neA_cons, neA_nil, hn])); (try simp +contextual (disch := omega) only [Z2, hn]); (repeat' (first | (with_reducible intro h) | (with_reducible refine And.intro (by omega) ?_) | (with_reducible refine exP (by omega) ?_) | (with_reducible apply And.intro))))
      all_goals try (exfalso; omega)
      rw [List.take_length]
      exact ⟨_, ⟨q, rfl, rfl⟩, rfl⟩
  · have hB' : defB g t x = false := by simpa using hB
    rw [stI_no hB']
    ((try with_reducible refine mkQI ?_); (repeat ((first | (with_reducible refine mkQU ?_) | simp only [brGen]); try simp (maxSteps := 4000000) +contextual only [↓ S2, S2, vIte, ↓reduceIte, Int.reduceNe, Nat.reduceEqDiff, reduceCtorEq, Nat.reduceLeDiff, Nat.reduceAdd, Nat.reduceLT, hget_c, hset_c, hdel_c, neN, neA_cons, neA_nil, hB'])); (try simp +contextual (disch := omega) only [Z2, hB']); (repeat' (first | (with_reducible intro h) | (with_reducible refine And.intro (by omega) ?_) | (with_reducible refine exP (by omega) ?_) | (with_reducible apply And.intro))))
    exact ⟨_, ⟨r0, rfl, rfl⟩, rfl⟩
theorem q63 (g : Gram) (t : List Nod) (x : Int × ByteArray) (hg : smGr g) (hl : t.length ≤ 1048576) (hk : ∀ x ∈ t, x.kids.length ≤ 1048576) : Pure Tryz.prog 63 [Gr g, Tr t, Ins x] (· = InsS (stI g t x)) :=
  Pure.bor ((o63 g t x hg hl hk []).mono fun v H' ⟨H1, ⟨r, h1, h2⟩, h3⟩ => by
    subst h1; subst h2; subst h3
    exact bor_Ins hget_new rfl)
theorem q75 (g : Gram) (t : List Nod) (x : Int × ByteArray) (hg : smGr g) (hl : t.length ≤ 1048576) (hk : ∀ x ∈ t, x.kids.length ≤ 1048576) : Pure Tryz.prog 75 [Gr g, Tr t, Ins x] (· = InsS (stI g t x)) :=
  Pure.bor ((o75 g t x hg hl hk []).mono fun v H' ⟨H1, ⟨r, h1, h2⟩, h3⟩ => by
    subst h1; subst h2; subst h3
    exact bor_Ins hget_new rfl)
end Go.Proofs.YtbdmpkidcpblaaaGreat

namespace Go.Proofs.YtbdmpkidcpblaaaGreat
open Go.Gh
set_option maxRecDepth 20000
set_option linter.unusedSimpArgs false
set_option linter.unusedVariables false
theorem w64 (L : List Oc) (y : Oc) : Pure Tryz.prog 64 [InsS L, Ins y] (· = I (ixI L y)) := by
  refine GCalls.lenA fun hlen => ?_
  have hlen := hlen.1.1
  simp only [List.length_map, maxL] at hlen
  refine gstart mxd i64 rfl (by simp) ?_; simp (maxSteps := 2000000) only [↓ S2, S2, vIte, ↓reduceIte, Int.reduceNe, Nat.reduceEqDiff, reduceCtorEq, Nat.reduceLeDiff, Nat.reduceAdd, Nat.reduceLT]
  ((try with_reducible refine mkQI ?_); (repeat ((first | (with_reducible refine mkQU ?_) | simp only [brGen]); try simp (maxSteps := 4000000) +contextual only [↓ S2, S2, vIte, ↓reduceIte, Int.reduceNe, Nat.reduceEqDiff, reduceCtorEq, Nat.reduceLeDiff, Nat.reduceAdd, Nat.reduceLT, hget_c, hset_c, hdel_c, neN, neA_cons, neA_nil, ])); (try simp +contextual (disch := omega) only [Z2, ]); (repeat' (first | (with_reducible intro h) | (with_reducible refine And.intro (by omega) ?_) | (with_reducible refine exP (by omega) ?_) | (with_reducible apply And.intro))))
  refine wloop mxd (ι := { i : Nat // i ≤ L.length ∧ ∀ a ∈ L.take i, decide (a = y) = false }) (fun i => [(0, InsS L), (3, .rop 2 (Ins y)), (5, I i.1)]) (fun _ => []) (fun i => L.length - i.1) ⟨0, by simp⟩ (by simp [E2]) rfl ?_
  rintro ⟨i, hi, hn⟩
  rcases Nat.lt_or_ge i L.length with hlt | hge
  · by_cases he : L[i] = y
    · have he1 : L[i].1 = y.1 := by rw [he]
      have he2 : L[i].2 = y.2 := by rw [he]
      have e : ixI L y = i := ixOf_hit hlt (by simp [he]) hn
      rw [e]
      ((try with_reducible refine mkQI ?_); (repeat ((first | (with_reducible refine mkQU ?_) | simp only [brGen]); try simp (maxSteps := 4000000) +contextual only [↓ S2, S2, vIte, ↓reduceIte, Int.reduceNe, Nat.reduceEqDiff, reduceCtorEq, Nat.reduceLeDiff, Nat.reduceAdd, Nat.reduceLT, hget_c, hset_c, hdel_c, neN, neA_cons, neA_nil, he1, he2])); (try simp +contextual (disch := omega) only [Z2, he1, he2]); (repeat' (first | (with_reducible intro h) | (with_reducible refine And.intro (by omega) ?_) | (with_reducible refine exP (by omega) ?_) | (with_reducible apply And.intro))))
      all_goals first | rfl | (exfalso; omega)
    · ((try with_reducible refine mkQI ?_); (repeat ((first | (with_reducible refine mkQU ?_) | simp only [brGen]); try simp (maxSteps := 4000000) +contextual only [↓ S2, S2, vIte, ↓reduceIte, Int.reduceNe, Nat.reduceEqDiff, reduceCtorEq, Nat.reduceLeDiff, Nat.reduceAdd, Nat.reduceLT, hget_c, hset_c, hdel_c, neN, neA_cons, neA_nil, ])); (try simp +contextual (disch := omega) only [Z2, ]); (repeat' (first | (with_reducible intro h) | (with_reducible refine And.intro (by omega) ?_) | (with_reducible refine exP (by omega) ?_) | (with_reducible apply And.intro))))
      all_goals first
        | (exfalso; exact he (Prod.ext (by assumption) (by assumption)))
        | (exfalso; omega)
        | exact nx ⟨i + 1, by omega, take_step hlt (by simp [he]) hn⟩ (by simp; omega) (by simp [E2]) rfl
  · obtain rfl : i = L.length := by omega
    rw [List.take_length] at hn
    have e : ixI L y = -1 := ixOf_none hn
    rw [e]
    ((try with_reducible refine mkQI ?_); (repeat ((first | (with_reducible refine mkQU ?_) | simp only [brGen]); try simp (maxSteps := 4000000) +contextual only [↓ S2, S2, vIte, ↓reduceIte, Int.reduceNe, Nat.reduceEqDiff, reduceCtorEq, Nat.reduceLeDiff, Nat.reduceAdd, Nat.reduceLT, hget_c, hset_c, hdel_c, neN, neA_cons, neA_nil, ])); (try simp +contextual (disch := omega) only [Z2, ]); (repeat' (first | (with_reducible intro h) | (with_reducible refine And.intro (by omega) ?_) | (with_reducible refine exP (by omega) ?_) | (with_reducible apply And.intro))))
    all_goals first | rfl | (exfalso; omega)
theorem w141 (L : List Oc) (y : Oc) : Pure Tryz.prog 141 [InsS L, Ins y] (· = I (ixI L y)) := by
  refine GCalls.lenA fun hlen => ?_
  have hlen := hlen.1.1
  simp only [List.length_map, maxL] at hlen
  refine gstart mxd i141 rfl (by simp) ?_; simp (maxSteps := 2000000) only [↓ S2, S2, vIte, ↓reduceIte, Int.reduceNe, Nat.reduceEqDiff, reduceCtorEq, Nat.reduceLeDiff, Nat.reduceAdd, Nat.reduceLT]
  ((try with_reducible refine mkQI ?_); (repeat ((first | (with_reducible refine mkQU ?_) | simp only [brGen]); try simp (maxSteps := 4000000) +contextual only [↓ S2, S2, vIte, ↓reduceIte, Int.reduceNe, Nat.reduceEqDiff, reduceCtorEq, Nat.reduceLeDiff, Nat.reduceAdd, Nat.reduceLT, hget_c, hset_c, hdel_c, neN, neA_cons, neA_nil, ])); (try simp +contextual (disch := omega) only [Z2, ]); (repeat' (first | (with_reducible intro h) | (with_reducible refine And.intro (by omega) ?_) | (with_reducible refine exP (by omega) ?_) | (with_reducible apply And.intro))))
  refine wloop mxd (ι := { i : Nat // i ≤ L.length ∧ ∀ a ∈ L.take i, decide (a = y) = false }) (fun i => [(0, InsS L), (3, .rop 2 (Ins y)), (7, I L.length), (8, I i.1)]) (fun _ => []) (fun i => L.length - i.1) ⟨0, by simp⟩ (by simp [E2]) rfl ?_
  rintro ⟨i, hi, hn⟩
  rcases Nat.lt_or_ge i L.length with hlt | hge
  · by_cases he : L[i] = y
    · have he1 : y.1 = L[i].1 := by rw [he]
      have he2 : y.2 = L[i].2 := by rw [he]
      have e : ixI L y = i := ixOf_hit hlt (by simp [he]) hn
      rw [e]
      ((try with_reducible refine mkQI ?_); (repeat ((first | (with_reducible refine mkQU ?_) | simp only [brGen]); try simp (maxSteps := 4000000) +contextual only [↓ S2, S2, vIte, ↓reduceIte, Int.reduceNe, Nat.reduceEqDiff, reduceCtorEq, Nat.reduceLeDiff, Nat.reduceAdd, Nat.reduceLT, hget_c, hset_c, hdel_c, neN, neA_cons, neA_nil, he1, he2])); (try simp +contextual (disch := omega) only [Z2, he1, he2]); (repeat' (first | (with_reducible intro h) | (with_reducible refine And.intro (by omega) ?_) | (with_reducible refine exP (by omega) ?_) | (with_reducible apply And.intro))))
      all_goals first | rfl | (exfalso; omega)
    · ((try with_reducible refine mkQI ?_); (repeat ((first | (with_reducible refine mkQU ?_) | simp only [brGen]); try simp (maxSteps := 4000000) +contextual only [↓ S2, S2, vIte, ↓reduceIte, Int.reduceNe, Nat.reduceEqDiff, reduceCtorEq, Nat.reduceLeDiff, Nat.reduceAdd, Nat.reduceLT, hget_c, hset_c, hdel_c, neN, neA_cons, neA_nil, ])); (try simp +contextual (disch := omega) only [Z2, ]); (repeat' (first | (with_reducible intro h) | (with_reducible refine And.intro (by omega) ?_) | (with_reducible refine exP (by omega) ?_) | (with_reducible apply And.intro))))
      all_goals first
        | (exfalso; exact he (Prod.ext (Eq.symm (by assumption)) (Eq.symm (by assumption))))
        | (exfalso; omega)
        | exact nx ⟨i + 1, by omega, take_step hlt (by simp [he]) hn⟩ (by simp; omega) (by simp [E2]) rfl
  · obtain rfl : i = L.length := by omega
    rw [List.take_length] at hn
    have e : ixI L y = -1 := ixOf_none hn
    rw [e]
    ((try with_reducible refine mkQI ?_); (repeat ((first | (with_reducible refine mkQU ?_) | simp only [brGen]); try simp (maxSteps := 4000000) +contextual only [↓ S2, S2, vIte, ↓reduceIte, Int.reduceNe, Nat.reduceEqDiff, reduceCtorEq, Nat.reduceLeDiff, Nat.reduceAdd, Nat.reduceLT, hget_c, hset_c, hdel_c, neN, neA_cons, neA_nil, ])); (try simp +contextual (disch := omega) only [Z2, ]); (repeat' (first | (with_reducible intro h) | (with_reducible refine And.intro (by omega) ?_) | (with_reducible refine exP (by omega) ?_) | (with_reducible apply And.intro))))
    all_goals first | rfl | (exfalso; omega)
theorem w76 (L : List Oc) (y : Oc) : Pure Tryz.prog 76 [InsS L, Ins y] (· = I (ixI L y)) := by
  refine gstart mxd i76 rfl (by simp) ?_; simp (maxSteps := 2000000) only [↓ S2, S2, vIte, ↓reduceIte, Int.reduceNe, Nat.reduceEqDiff, reduceCtorEq, Nat.reduceLeDiff, Nat.reduceAdd, Nat.reduceLT]
  ((try with_reducible refine mkQI ?_); (repeat ((first | (with_reducible refine mkQU ?_) | simp only [brGen]); try simp (maxSteps := 4000000) +contextual only [↓ S2, S2, vIte, ↓reduceIte, Int.reduceNe, Nat.reduceEqDiff, reduceCtorEq, Nat.reduceLeDiff, Nat.reduceAdd, Nat.reduceLT, hget_c, hset_c, hdel_c, neN, neA_cons, neA_nil, ])); (try simp +contextual (disch := omega) only [Z2, ]); (repeat' (first | (with_reducible intro h) | (with_reducible refine And.intro (by omega) ?_) | (with_reducible refine exP (by omega) ?_) | (with_reducible apply And.intro))))
  refine callS.eq (w141 L y) ?_
  ((try with_reducible refine mkQI ?_); (repeat ((first | (with_reducible refine mkQU ?_) | simp only [brGen]); try simp (maxSteps := 4000000) +contextual only [↓ S2, S2, vIte, ↓reduceIte, Int.reduceNe, Nat.reduceEqDiff, reduceCtorEq, Nat.reduceLeDiff, Nat.reduceAdd, Nat.reduceLT, hget_c, hset_c, hdel_c, neN, neA_cons, neA_nil, ])); (try simp +contextual (disch := omega) only [Z2, ]); (repeat' (first | (with_reducible intro h) | (with_reducible refine And.intro (by omega) ?_) | (with_reducible refine exP (by omega) ?_) | (with_reducible apply And.intro))))
end Go.Proofs.YtbdmpkidcpblaaaGreat

