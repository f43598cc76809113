/- The law FnExactTreeCycle returns true whatever the input, and the input reads behind the call as before. No condition. -/
import Derived.Test.YtbdmpkidcpblaaaGreatCyc18
namespace Go.Proofs.YtbdmpkidcpblaaaGreat
open Go.Gh
set_option maxRecDepth 20000
set_option linter.unusedSimpArgs false
set_option linter.unusedVariables false
set_option maxHeartbeats 4000000 in
theorem o65 (T : List (List Int)) (hT : okT T) (goal : Nat) (hg : goal < T.length) (H : GH) : GCalls Tryz.prog 65 [TbS T, I goal] H (fun v H' => ∃ H1, (∃ r, v = .own r 1 0 T.length ∧ H1 = [(r, 1, (farD (dst T goal)).map I)]) ∧ H' = H1 ++ H) := by
  have hTl := hT.1
  have h0 : GCalls Tryz.prog 65 [TbS T, I goal] H (fun v H' => ∃ r L, v = .own r 1 0 T.length ∧ hget L r = some (1, (farD (dst T goal)).map I) ∧ H' = L ++ H) := by
    refine gstart mxd i65 rfl (by simp) ?_; simp (maxSteps := 2000000) only [↓ S2, S2, vIte, ↓reduceIte, Int.reduceNe, Nat.reduceEqDiff, reduceCtorEq, Nat.reduceLeDiff, Nat.reduceAdd, Nat.reduceLT]
    ((try with_reducible refine mkQI ?_); (repeat ((first | (with_reducible refine mkQU ?_) | simp only [brGen]); try simp (maxSteps := 4000000) +contextual only [↓ S2, S2, vIte, ↓reduceIte, Int.reduceNe, Nat.reduceEqDiff, reduceCtorEq, Nat.reduceLeDiff, Nat.reduceAdd, Nat.reduceLT, hget_c, hset_c, hdel_c, neN, neA_cons, neA_nil, ])); (try simp +contextual (disch := omega) only [Z2, ]); (repeat' (first | (with_reducible intro h) | (with_reducible refine And.intro (by omega) ?_) | (with_reducible refine exP (by omega) ?_) | (with_reducible apply And.intro))))
    rename_i r0
    refine wloopN mxd (ι := { y : Nat × Nat // y.2 ≤ T.length }) (fun y => [(0, TbS T), (1, I goal), (5, .own y.1.1 1 0 y.1.2), (6, I y.1.2)]) (fun y => (y.1.1, 1, (List.replicate y.1.2 (-1 : Int)).map I) :: H) (fun y => T.length - y.1.2) ⟨(r0, 0), by simp⟩ (by simp [E2]) (by simp) ?_
    rintro ⟨⟨q, k⟩, hk⟩ hn
    dsimp only at hk hn ⊢
    replace hn := neH_of hn
    (replace hn := hn; simp only [neH_cons, neH_nil, neA_cons, neA_nil, and_true, true_and] at hn)
    rcases Nat.lt_or_ge k T.length with hlt | hge
    · ((try with_reducible refine mkQI ?_); (repeat ((first | (with_reducible refine mkQU ?_) | simp only [brGen]); try simp (maxSteps := 4000000) +contextual only [↓ S2, S2, vIte, ↓reduceIte, Int.reduceNe, Nat.reduceEqDiff, reduceCtorEq, Nat.reduceLeDiff, Nat.reduceAdd, Nat.reduceLT, hget_c, hset_c, hdel_c, neN, neA_cons, neA_nil, hn, List.length_append, List.length_singleton, List.length_map, List.length_replicate, maxLv])); (try simp +contextual (disch := omega) only [Z2, hn, List.length_append, List.length_singleton, List.length_map, List.length_replicate, maxLv]); (repeat' (first | (with_reducible intro h) | (with_reducible refine And.intro (by omega) ?_) | (with_reducible refine exP (by omega) ?_) | (with_reducible apply And.intro))))
      all_goals try (exfalso; omega)
      rename_i r3 _ r4
      refine nxF ⟨(r4, k + 1), by omega⟩ (by simp; omega) (FE.perm (H := [_, _]) (L := [(r4, _)]) (by repeat' (first | exact trivial | (refine And.intro (by simp only [hget_c, *, if_true, if_false]; try rfl) (And.intro (by simp [names_cons, names_nil, *]) ?_))))) (by simp [E2]) ?_
      rw [List.take_of_length_le (by simp), List.replicate_succ', List.map_append]
      rfl
    · obtain rfl : k = T.length := by omega
      ((try with_reducible refine mkQI ?_); (repeat ((first | (with_reducible refine mkQU ?_) | simp only [brGen]); try simp (maxSteps := 4000000) +contextual only [↓ S2, S2, vIte, ↓reduceIte, Int.reduceNe, Nat.reduceEqDiff, reduceCtorEq, Nat.reduceLeDiff, Nat.reduceAdd, Nat.reduceLT, hget_c, hset_c, hdel_c, neN, neA_cons, neA_nil, hn])); (try simp +contextual (disch := omega) only [Z2, hn]); (repeat' (first | (with_reducible intro h) | (with_reducible refine And.intro (by omega) ?_) | (with_reducible refine exP (by omega) ?_) | (with_reducible apply And.intro))))
      all_goals try (exfalso; omega)
      rename_i l0
      refine wloopN mxd (ι := { y : (Nat × Nat) × Nat // ∀ j, j < y.2 → (bfs T goal j).2 ≠ [] }) (fun y => [(0, TbS T), (1, I goal), (5, .own y.1.1.1 1 0 T.length), (7, .own y.1.1.2 1 0 (bfs T goal y.1.2).2.length), (8, I ((y.1.2 : Int) + 1))]) (fun y => (y.1.1.2, 1, (bfs T goal y.1.2).2.map I) :: (y.1.1.1, 1, (bfs T goal y.1.2).1.map I) :: H) (fun y => bmu (bfs T goal y.1.2).1 (bfs T goal y.1.2).2) ⟨((q, l0), 0), by simp⟩ (by simp [E2, bfs]) (by simp [bfs]) ?_
      rintro ⟨⟨⟨q, l⟩, m⟩, hne⟩ hn
      dsimp only at hne hn ⊢
      replace hn := neH_of hn
      (replace hn := hn; simp only [neH_cons, neH_nil, neA_cons, neA_nil, and_true, true_and] at hn)
      have hbm := bmu_bound m hne
      have hFl := bfs_len T goal m
      have hLs := bfs_small T goal m
      have hnx : (bfs T goal (m + 1)).1 = stF1 T (bfs T goal m).1 (bfs T goal m).2 (m + 1) ∧ (bfs T goal (m + 1)).2 = stL1 T (bfs T goal m).1 (bfs T goal m).2 := ⟨rfl, rfl⟩
      have hend := bfs_end hT hne
      by_cases hL0 : (bfs T goal m).2 = []
      · have e := hend hL0
        rw [e, hL0]
        ((try with_reducible refine mkQI ?_); (repeat ((first | (with_reducible refine mkQU ?_) | simp only [brGen]); try simp (maxSteps := 4000000) +contextual only [↓ S2, S2, vIte, ↓reduceIte, Int.reduceNe, Nat.reduceEqDiff, reduceCtorEq, Nat.reduceLeDiff, Nat.reduceAdd, Nat.reduceLT, hget_c, hset_c, hdel_c, neN, neA_cons, neA_nil, hn])); (try simp +contextual (disch := omega) only [Z2, hn]); (repeat' (first | (with_reducible intro h) | (with_reducible refine And.intro (by omega) ?_) | (with_reducible refine exP (by omega) ?_) | (with_reducible apply And.intro))))
        all_goals try (exfalso; omega)
        exact ⟨q, [(l, _), (q, _)], rfl, by simp [hget, hn], rfl⟩
      · have hmu := bmu_lt (T := T) hFl hL0 (n := m + 1) (by omega)
        rw [← hnx.1, ← hnx.2] at hmu
        have hLp : 0 < (bfs T goal m).2.length := List.length_pos_iff.2 hL0
        generalize hF : (bfs T goal m).1 = F at *
        generalize hL : (bfs T goal m).2 = L at *
        have hne2 : ∀ j, j < m + 1 → (bfs T goal j).2 ≠ [] := fun j hj => by
          rcases Nat.lt_succ_iff_lt_or_eq.1 hj with h | h
          · exact hne j h
          · rw [h, hL]; exact hL0
        ((try with_reducible refine mkQI ?_); (repeat ((first | (with_reducible refine mkQU ?_) | simp only [brGen]); try simp (maxSteps := 4000000) +contextual only [↓ S2, S2, vIte, ↓reduceIte, Int.reduceNe, Nat.reduceEqDiff, reduceCtorEq, Nat.reduceLeDiff, Nat.reduceAdd, Nat.reduceLT, hget_c, hset_c, hdel_c, neN, neA_cons, neA_nil, hn])); (try simp +contextual (disch := omega) only [Z2, hn]); (repeat' (first | (with_reducible intro h) | (with_reducible refine And.intro (by omega) ?_) | (with_reducible refine exP (by omega) ?_) | (with_reducible apply And.intro))))
        all_goals try (exfalso; omega)
        rename_i x0
        refine wloopN mxd (ι := { y : Nat × Nat // y.2 ≤ T.length }) (fun y => [(0, TbS T), (1, I goal), (5, .own q 1 0 T.length), (7, .own l 1 0 L.length), (8, I ((m : Int) + 1)), (9, .own y.1.1 1 0 (stLp T F L y.1.2).length), (10, I y.1.2)]) (fun y => (y.1.1, 1, (stLp T F L y.1.2).map I) :: (l, 1, L.map I) :: (q, 1, (mixF T F L (m + 1) y.1.2).map I) :: H) (fun y => T.length - y.1.2) ⟨(x0, 0), by simp⟩ (by simp [E2, stLp]) (by simp [stLp, mixF]) ?_
        rintro ⟨⟨x, k⟩, hk⟩ hn
        dsimp only at hk hn ⊢
        replace hn := neH_of hn
        (replace hn := hn; simp only [neH_cons, neH_nil, neA_cons, neA_nil, and_true, true_and] at hn)
        rcases Nat.lt_or_ge k T.length with hlt | hge
        · have hF0 : (bfs T goal m).1.length = T.length := by rw [hF]; exact hFl
          ((try with_reducible refine mkQI ?_); (repeat ((first | (with_reducible refine mkQU ?_) | simp only [brGen]); try simp (maxSteps := 4000000) +contextual only [↓ S2, S2, vIte, ↓reduceIte, Int.reduceNe, Nat.reduceEqDiff, reduceCtorEq, Nat.reduceLeDiff, Nat.reduceAdd, Nat.reduceLT, hget_c, hset_c, hdel_c, neN, neA_cons, neA_nil, hn])); (try simp +contextual (disch := omega) only [Z2, hn]); (repeat' (first | (with_reducible intro h) | (with_reducible refine And.intro (by omega) ?_) | (with_reducible refine exP (by omega) ?_) | (with_reducible apply And.intro))))
          all_goals try (exfalso; omega)
          refine wloopN mxd (ι := { y : Nat × Nat // y.2 ≤ L.length }) (fun y => [(0, TbS T), (1, I goal), (5, .own q 1 0 T.length), (7, .own l 1 0 L.length), (8, I ((m : Int) + 1)), (9, .own y.1.1 1 0 (nxtH T F L k y.1.2).length), (10, I k), (11, I y.1.2)]) (fun y => (y.1.1, 1, (nxtH T F L k y.1.2).map I) :: (l, 1, L.map I) :: (q, 1, (farH T F L (m + 1) k y.1.2).map I) :: H) (fun y => L.length - y.1.2) ⟨(x, 0), by simp⟩ (by simp [E2, nxtH, hitB_zero]) (by simp [nxtH, farH, hitB_zero]) ?_
          rintro ⟨⟨x, j⟩, hj⟩ hn
          dsimp only at hj hn ⊢
          replace hn := neH_of hn
          (replace hn := hn; simp only [neH_cons, neH_nil, neA_cons, neA_nil, and_true, true_and] at hn)
          have hfl := farH_len (T := T) (F := F) (L := L) (n := m + 1) (k := k) (j := j) hFl (by omega)
          have hnl := nxtH_len (T := T) (F := F) (L := L) (k := k) (j := j)
          rcases Nat.lt_or_ge j L.length with hlt2 | hge2
          · have hsu := hitB_succ (T := T) (F := F) hlt2 hlt (by omega)
            have hmg := mixF_get (T := T) (F := F) (L := L) (n := m + 1) hFl hlt (by rw [mixF_len hFl (by omega)]; exact hlt)
            rw [getD_lt (by omega : k < F.length)] at hmg
            have hkf : k < (farH T F L (m + 1) k j).length := by omega
            by_cases hh : hitB T F L k j = true
            · rw [hh, Bool.true_or] at hsu
              have e1 : (farH T F L (m + 1) k j)[k] = ((m + 1 : Nat) : Int) := by simp [farH, hh]
              have e2 : ¬ (((m + 1 : Nat) : Int) < 0) := by omega
              have e3 : farH T F L (m + 1) k (j + 1) = farH T F L (m + 1) k j := by simp [farH, hh, hsu]
              have e4 : nxtH T F L k (j + 1) = nxtH T F L k j := by simp [nxtH, hh, hsu]
              ((try with_reducible refine mkQI ?_); (repeat ((first | (with_reducible refine mkQU ?_) | simp only [brGen]); try simp (maxSteps := 4000000) +contextual only [↓ S2, S2, vIte, ↓reduceIte, Int.reduceNe, Nat.reduceEqDiff, reduceCtorEq, Nat.reduceLeDiff, Nat.reduceAdd, Nat.reduceLT, hget_c, hset_c, hdel_c, neN, neA_cons, neA_nil, hn, e1, e2, hfl, List.length_map])); (try simp +contextual (disch := omega) only [Z2, hn, e1, e2, hfl, List.length_map]); (repeat' (first | (with_reducible intro h) | (with_reducible refine And.intro (by omega) ?_) | (with_reducible refine exP (by omega) ?_) | (with_reducible apply And.intro))))
              all_goals first
                | (exfalso; omega)
                | exact nx ⟨(x, j + 1), by omega⟩ (by simp; omega) (by simp only [e4]; simp [E2]) (by simp only [e3, e4])
                | trace_state
            · have hh' : hitB T F L k j = false := by simpa using hh
              rw [hh', Bool.false_or] at hsu
              have e1 : (farH T F L (m + 1) k j)[k] = F[k] := by simp only [farH, hh']; exact hmg
              by_cases hng : F[k] < 0
              · simp only [hng, decide_true, Bool.true_and] at hsu
                ((try with_reducible refine mkQI ?_); (repeat ((first | (with_reducible refine mkQU ?_) | simp only [brGen]); try simp (maxSteps := 4000000) +contextual only [↓ S2, S2, vIte, ↓reduceIte, Int.reduceNe, Nat.reduceEqDiff, reduceCtorEq, Nat.reduceLeDiff, Nat.reduceAdd, Nat.reduceLT, hget_c, hset_c, hdel_c, neN, neA_cons, neA_nil, hn, e1, hng, hfl, List.length_map])); (try simp +contextual (disch := omega) only [Z2, hn, e1, hng, hfl, List.length_map]); (repeat' (first | (with_reducible intro h) | (with_reducible refine And.intro (by omega) ?_) | (with_reducible refine exP (by omega) ?_) | (with_reducible apply And.intro))))
                all_goals try (exfalso; omega)
                refine callS.eq (w130 T[k] L[j]) ?_
                by_cases hi : hasI T[k] L[j] = true
                · rw [hi] at hsu
                  have e3 : farH T F L (m + 1) k (j + 1) = (farH T F L (m + 1) k j).set k ((m + 1 : Nat) : Int) := by simp [farH, hh', hsu]
                  have e4 : nxtH T F L k (j + 1) = nxtH T F L k j ++ [(k : Int)] := by simp [nxtH, hh', hsu]
                  ((try with_reducible refine mkQI ?_); (repeat ((first | (with_reducible refine mkQU ?_) | simp only [brGen]); try simp (maxSteps := 4000000) +contextual only [↓ S2, S2, vIte, ↓reduceIte, Int.reduceNe, Nat.reduceEqDiff, reduceCtorEq, Nat.reduceLeDiff, Nat.reduceAdd, Nat.reduceLT, hget_c, hset_c, hdel_c, neN, neA_cons, neA_nil, hn, hi, hfl, List.length_append, List.length_singleton, List.length_map, List.length_take, List.length_set, maxLv])); (try simp +contextual (disch := omega) only [Z2, hn, hi, hfl, List.length_append, List.length_singleton, List.length_map, List.length_take, List.length_set, maxLv]); (repeat' (first | (with_reducible intro h) | (with_reducible refine And.intro (by omega) ?_) | (with_reducible refine exP (by omega) ?_) | (with_reducible apply And.intro))))
                  all_goals try (exfalso; omega)
                  rename_i r5 _ r6
                  refine nxF ⟨(r6, j + 1), by omega⟩ (by simp; omega) (FE.perm (H := [_, _, _, _]) (L := [(r6, _), (l, _), (q, _)]) (by repeat' (first | exact trivial | (refine And.intro (by simp only [hget_c, *, if_true, if_false]; try rfl) (And.intro (by simp [names_cons, names_nil, *]) ?_))))) (by simp only [e4]; simp [E2]) ?_
                  simp only [e3, e4]
                  rw [List.take_of_length_le (by simp)]
                  simp only [List.map_append, List.map_set, List.map_cons, List.map_nil, List.cons_append, List.nil_append, Int.natCast_add]
                  rfl
                · have hi' : hasI T[k] L[j] = false := by simpa using hi
                  rw [hi'] at hsu
                  have e3 : farH T F L (m + 1) k (j + 1) = farH T F L (m + 1) k j := by simp [farH, hh', hsu]
                  have e4 : nxtH T F L k (j + 1) = nxtH T F L k j := by simp [nxtH, hh', hsu]
                  ((try with_reducible refine mkQI ?_); (repeat ((first | (with_reducible refine mkQU ?_) | simp only [brGen]); try simp (maxSteps := 4000000) +contextual only [↓ S2, S2, vIte, ↓reduceIte, Int.reduceNe, Nat.reduceEqDiff, reduceCtorEq, Nat.reduceLeDiff, Nat.reduceAdd, Nat.reduceLT, hget_c, hset_c, hdel_c, neN, neA_cons, neA_nil, hn, hi'])); (try simp +contextual (disch := omega) only [Z2, hn, hi']); (repeat' (first | (with_reducible intro h) | (with_reducible refine And.intro (by omega) ?_) | (with_reducible refine exP (by omega) ?_) | (with_reducible apply And.intro))))
                  all_goals first
                    | (exfalso; omega)
                    | exact nx ⟨(x, j + 1), by omega⟩ (by simp; omega) (by simp only [e4]; simp [E2]) (by simp only [e3, e4])
                    | trace_state
              · simp only [hng, decide_false, Bool.false_and] at hsu
                have e3 : farH T F L (m + 1) k (j + 1) = farH T F L (m + 1) k j := by simp [farH, hh', hsu]
                have e4 : nxtH T F L k (j + 1) = nxtH T F L k j := by simp [nxtH, hh', hsu]
                ((try with_reducible refine mkQI ?_); (repeat ((first | (with_reducible refine mkQU ?_) | simp only [brGen]); try simp (maxSteps := 4000000) +contextual only [↓ S2, S2, vIte, ↓reduceIte, Int.reduceNe, Nat.reduceEqDiff, reduceCtorEq, Nat.reduceLeDiff, Nat.reduceAdd, Nat.reduceLT, hget_c, hset_c, hdel_c, neN, neA_cons, neA_nil, hn, e1, hng, hfl, List.length_map])); (try simp +contextual (disch := omega) only [Z2, hn, e1, hng, hfl, List.length_map]); (repeat' (first | (with_reducible intro h) | (with_reducible refine And.intro (by omega) ?_) | (with_reducible refine exP (by omega) ?_) | (with_reducible apply And.intro))))
                all_goals first
                  | (exfalso; omega)
                  | exact nx ⟨(x, j + 1), by omega⟩ (by simp; omega) (by simp only [e4]; simp [E2]) (by simp only [e3, e4])
                  | trace_state
          · obtain rfl : j = L.length := by omega
            ((try with_reducible refine mkQI ?_); (repeat ((first | (with_reducible refine mkQU ?_) | simp only [brGen]); try simp (maxSteps := 4000000) +contextual only [↓ S2, S2, vIte, ↓reduceIte, Int.reduceNe, Nat.reduceEqDiff, reduceCtorEq, Nat.reduceLeDiff, Nat.reduceAdd, Nat.reduceLT, hget_c, hset_c, hdel_c, neN, neA_cons, neA_nil, hn])); (try simp +contextual (disch := omega) only [Z2, hn]); (repeat' (first | (with_reducible intro h) | (with_reducible refine And.intro (by omega) ?_) | (with_reducible refine exP (by omega) ?_) | (with_reducible apply And.intro))))
            all_goals try (exfalso; omega)
            refine nx ⟨(x, k + 1), by omega⟩ (by simp; omega) (by simp only [nxtH_next]; simp [E2]) ?_
            simp only [nxtH_next, farH_next hFl hlt]
        · obtain rfl : k = T.length := by omega
          ((try with_reducible refine mkQI ?_); (repeat ((first | (with_reducible refine mkQU ?_) | simp only [brGen]); try simp (maxSteps := 4000000) +contextual only [↓ S2, S2, vIte, ↓reduceIte, Int.reduceNe, Nat.reduceEqDiff, reduceCtorEq, Nat.reduceLeDiff, Nat.reduceAdd, Nat.reduceLT, hget_c, hset_c, hdel_c, neN, neA_cons, neA_nil, hn])); (try simp +contextual (disch := omega) only [Z2, hn]); (repeat' (first | (with_reducible intro h) | (with_reducible refine And.intro (by omega) ?_) | (with_reducible refine exP (by omega) ?_) | (with_reducible apply And.intro))))
          all_goals try (exfalso; omega)
          refine nxF ⟨((q, x), m + 1), hne2⟩ (by dsimp only; rw [hF, hL]; exact hmu) (FE.perm (H := [_, _, _]) (L := [(x, _), (q, _)]) (by repeat' (first | exact trivial | (refine And.intro (by simp only [hget_c, *, if_true, if_false]; try rfl) (And.intro (by simp [names_cons, names_nil, *]) ?_))))) (by simp only [hnx.2]; simp [E2, stL1]) ?_
          simp only [hnx.1, hnx.2, mixF_end hFl, stL1]
          rfl
  refine h0.fr ?_
  rintro v H' ⟨r, L, rfl, hr, rfl⟩
  exact ⟨_, _, FR.perm (H := L) (L := [(r, 1, (farD (dst T goal)).map I)]) ⟨hr, by simp [names], trivial⟩, _, ⟨r, rfl, rfl⟩, rfl⟩
end Go.Proofs.YtbdmpkidcpblaaaGreat

