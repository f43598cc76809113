/- The law FnExactTreeCycle returns true whatever the input, and the input reads behind the call as before. No condition. -/
import Derived.Test.YtbdmpkidcpblaaaGreatCyc19
namespace Go.Proofs.YtbdmpkidcpblaaaGreat
open Go.Gh
set_option maxRecDepth 20000
set_option linter.unusedSimpArgs false
set_option linter.unusedVariables false
set_option maxHeartbeats 8000000 in
theorem o37 (T : List (List Int)) (hT : okT T) (hp : posT T) (goal : Nat) (hg : goal < T.length) (H : GH) : GCalls Tryz.prog 37 [TbS T, I goal] H (fun v H' => ∃ H1, (∃ r, v = .own r 1 0 T.length ∧ H1 = [(r, 1, (dst T goal).map I)]) ∧ H' = H1 ++ H) := by
  have hTl := hT.1
  refine gstart mxd i37 rfl (by simp) ?_; simp (maxSteps := 2000000) only [↓ S2, S2, vIte, ↓reduceIte, Int.reduceNe, Nat.reduceEqDiff, reduceCtorEq, Nat.reduceLeDiff, Nat.reduceAdd, Nat.reduceLT]
  ((try with_reducible refine mkQI ?_); (repeat ((first | (with_reducible refine mkQU ?_) | simp only [brGen]); try simp (maxSteps := 4000000) +contextual only [↓ S2, S2, vIte, ↓reduceIte, Int.reduceNe, Nat.reduceEqDiff, reduceCtorEq, Nat.reduceLeDiff, Nat.reduceAdd, Nat.reduceLT, hget_c, hset_c, hdel_c, neN, neA_cons, neA_nil, maxLv])); (try simp +contextual (disch := omega) only [Z2, maxLv]); (repeat' (first | (with_reducible intro h) | (with_reducible refine And.intro (by omega) ?_) | (with_reducible refine exP (by omega) ?_) | (with_reducible apply And.intro))))
  all_goals try (exfalso; omega)
  rename_i r0
  refine wloop mxd (ι := { m : Nat // m ≤ T.length }) (fun m => [(0, TbS T), (1, I goal), (5, .own r0 1 0 T.length), (6, I ((m.1 : Int) + 1))]) (fun m => (r0, 1, (dL T goal m.1).map I) :: H) (fun m => T.length - m.1) ⟨0, by omega⟩ (by simp [E2]) (by simp [dL]) ?_
  rintro ⟨m, hm⟩
  rcases Nat.lt_or_ge m T.length with hlt | hge
  · ((try with_reducible refine mkQI ?_); (repeat ((first | (with_reducible refine mkQU ?_) | simp only [brGen]); try simp (maxSteps := 4000000) +contextual only [↓ S2, S2, vIte, ↓reduceIte, Int.reduceNe, Nat.reduceEqDiff, reduceCtorEq, Nat.reduceLeDiff, Nat.reduceAdd, Nat.reduceLT, hget_c, hset_c, hdel_c, neN, neA_cons, neA_nil, ])); (try simp +contextual (disch := omega) only [Z2, ]); (repeat' (first | (with_reducible intro h) | (with_reducible refine And.intro (by omega) ?_) | (with_reducible refine exP (by omega) ?_) | (with_reducible apply And.intro))))
    all_goals try (exfalso; omega)
    refine wloop mxd (ι := { i : Nat // i ≤ T.length }) (fun i => [(0, TbS T), (1, I goal), (5, .own r0 1 0 T.length), (6, I ((m : Int) + 1)), (20, TbS T), (21, I T.length), (22, I i.1)]) (fun i => (r0, 1, (pD T goal m i.1).map I) :: H) (fun i => T.length - i.1) ⟨0, by omega⟩ (by simp [E2]) (by simp [pD_zero]) ?_
    rintro ⟨i, hi⟩
    rcases Nat.lt_or_ge i T.length with hlt2 | hge2
    · have hpl := pD_len (T := T) (goal := goal) (m := m) (i := i) (by omega)
      have hpi : i < (pD T goal m i).length := by omega
      have hpa := pD_at (goal := goal) (m := m) hlt2 hpi
      have hrl := (hT.2 _ (List.getElem_mem hlt2)).1
      by_cases h0 : (dL T goal m).getD i 0 = 0
      · rw [h0] at hpa
        ((try with_reducible refine mkQI ?_); (repeat ((first | (with_reducible refine mkQU ?_) | simp only [brGen]); try simp (maxSteps := 4000000) +contextual only [↓ S2, S2, vIte, ↓reduceIte, Int.reduceNe, Nat.reduceEqDiff, reduceCtorEq, Nat.reduceLeDiff, Nat.reduceAdd, Nat.reduceLT, hget_c, hset_c, hdel_c, neN, neA_cons, neA_nil, hpl, hpa, List.length_map])); (try simp +contextual (disch := omega) only [Z2, hpl, hpa, List.length_map]); (repeat' (first | (with_reducible intro h) | (with_reducible refine And.intro (by omega) ?_) | (with_reducible refine exP (by omega) ?_) | (with_reducible apply And.intro))))
        all_goals try (exfalso; omega)
        refine wloop mxd (ι := { j : Nat // j ≤ T[i].length }) (fun j => [(0, TbS T), (1, I goal), (5, .own r0 1 0 T.length), (6, I ((m : Int) + 1)), (20, TbS T), (21, I T.length), (22, I i), (7, I i), (8, IS T[i]), (32, IS T[i]), (33, I T[i].length), (34, I j.1)]) (fun j => (r0, 1, (iD T goal m i j.1).map I) :: H) (fun j => T[i].length - j.1) ⟨0, by omega⟩ (by simp [E2]) (by simp [iD_zero hlt2 h0]) ?_
        rintro ⟨j, hj⟩
        rcases Nat.lt_or_ge j T[i].length with hlt3 | hge3
        · have hkk := ((hT.2 _ (List.getElem_mem hlt2)).2 _ (List.getElem_mem hlt3)).2
          have hk0 := hp _ (List.getElem_mem hlt2) _ (List.getElem_mem hlt3)
          have hil := iD_len (T := T) (goal := goal) (m := m) (i := i) (j := j) (by omega)
          have hst := iD_step (goal := goal) (m := m) hlt2 hlt3
          have hmr := dC_more (j := j) hlt2 hk0 hkk h0
          obtain ⟨k, hk⟩ : ∃ k : Nat, T[i][j] = k := ⟨T[i][j].toNat, by omega⟩
          rw [hk] at hkk
          have hk' : k < (iD T goal m i j).length := by omega
          simp only [hk, Int.toNat_natCast] at hst hmr
          have goT {p : Prop} (h : p) : p = True := eq_true h
          have goF {p : Prop} (h : ¬ p) : p = False := eq_false h
          by_cases hm0 : m = 0
          · have hd1 := goT (show (m : Int) + 1 = 1 by omega)
            have hd2 := goF (show ¬ (m : Int) + 1 > 1 by omega)
            have hd3 := goF (show ¬ 1 < (m : Int) + 1 by omega)
            have hd : dC T goal (m + 1) (dL T goal m) k = decide ((k : Int) = goal) := by rw [hm0]; exact dC_one
            rw [hd] at hst
            by_cases hkg : k = goal
            · have hk1 := goT (show (k : Int) = goal by omega)
              have hk2 := goT hkg
              rw [if_pos (by simp only [hk1, decide_true])] at hst
              ((try with_reducible refine mkQI ?_); (repeat ((first | (with_reducible refine mkQU ?_) | simp only [brGen]); try simp (maxSteps := 4000000) +contextual only [↓ S2, S2, vIte, ↓reduceIte, Int.reduceNe, Nat.reduceEqDiff, reduceCtorEq, Nat.reduceLeDiff, Nat.reduceAdd, Nat.reduceLT, hget_c, hset_c, hdel_c, neN, neA_cons, neA_nil, hk, Int.toNat_natCast, hil, List.length_map, hd1, hd2, hd3, hk1, hk2, decide_true, decide_false, Int.reduceEq, Int.reduceLT, gt_iff_lt])); (try simp +contextual (disch := omega) only [Z2, hk, Int.toNat_natCast, hil, List.length_map, hd1, hd2, hd3, hk1, hk2, decide_true, decide_false, Int.reduceEq, Int.reduceLT, gt_iff_lt]); (repeat' (first | (with_reducible intro h) | (with_reducible refine And.intro (by omega) ?_) | (with_reducible refine exP (by omega) ?_) | (with_reducible apply And.intro))))
              all_goals first
                | (exfalso; omega)
                | exact nx ⟨j + 1, by omega⟩ (by simp; omega) (by simp [E2]) (by rw [hst, List.map_set])
                | trace_state
            · have hk1 := goF (show ¬ (k : Int) = goal by omega)
              have hk2 := goF hkg
              rw [if_neg (by simp only [hk1, decide_false]; exact Bool.false_ne_true)] at hst
              ((try with_reducible refine mkQI ?_); (repeat ((first | (with_reducible refine mkQU ?_) | simp only [brGen]); try simp (maxSteps := 4000000) +contextual only [↓ S2, S2, vIte, ↓reduceIte, Int.reduceNe, Nat.reduceEqDiff, reduceCtorEq, Nat.reduceLeDiff, Nat.reduceAdd, Nat.reduceLT, hget_c, hset_c, hdel_c, neN, neA_cons, neA_nil, hk, Int.toNat_natCast, hil, List.length_map, hd1, hd2, hd3, hk1, hk2, decide_true, decide_false, Int.reduceEq, Int.reduceLT, gt_iff_lt])); (try simp +contextual (disch := omega) only [Z2, hk, Int.toNat_natCast, hil, List.length_map, hd1, hd2, hd3, hk1, hk2, decide_true, decide_false, Int.reduceEq, Int.reduceLT, gt_iff_lt]); (repeat' (first | (with_reducible intro h) | (with_reducible refine And.intro (by omega) ?_) | (with_reducible refine exP (by omega) ?_) | (with_reducible apply And.intro))))
              all_goals first
                | (exfalso; omega)
                | exact nx ⟨j + 1, by omega⟩ (by simp; omega) (by simp [E2]) (by rw [hst])
                | trace_state
          · have hd1 := goF (show ¬ (m : Int) + 1 = 1 by omega)
            have hd2 := goT (show (m : Int) + 1 > 1 by omega)
            have hd3 := goT (show 1 < (m : Int) + 1 by omega)
            rw [hmr hm0 hk'] at hst
            by_cases hkg : k = goal
            · have hk1 := goT (show (k : Int) = goal by omega)
              have hk2 := goT hkg
              rw [if_neg (by simp [hkg])] at hst
              ((try with_reducible refine mkQI ?_); (repeat ((first | (with_reducible refine mkQU ?_) | simp only [brGen]); try simp (maxSteps := 4000000) +contextual only [↓ S2, S2, vIte, ↓reduceIte, Int.reduceNe, Nat.reduceEqDiff, reduceCtorEq, Nat.reduceLeDiff, Nat.reduceAdd, Nat.reduceLT, hget_c, hset_c, hdel_c, neN, neA_cons, neA_nil, hk, Int.toNat_natCast, hil, List.length_map, hd1, hd2, hd3, hk1, hk2, decide_true, decide_false, Int.reduceEq, Int.reduceLT, gt_iff_lt])); (try simp +contextual (disch := omega) only [Z2, hk, Int.toNat_natCast, hil, List.length_map, hd1, hd2, hd3, hk1, hk2, decide_true, decide_false, Int.reduceEq, Int.reduceLT, gt_iff_lt]); (repeat' (first | (with_reducible intro h) | (with_reducible refine And.intro (by omega) ?_) | (with_reducible refine exP (by omega) ?_) | (with_reducible apply And.intro))))
              all_goals first
                | (exfalso; omega)
                | exact nx ⟨j + 1, by omega⟩ (by simp; omega) (by simp [E2]) (by rw [hst])
                | trace_state
            · have hk1 := goF (show ¬ (k : Int) = goal by omega)
              have hk2 := goF hkg
              by_cases hv : (iD T goal m i j)[k] = m
              · rw [if_pos (by simp only [ne_eq, hk1, hv, not_false_eq_true, decide_true, Bool.and_true])] at hst
                ((try with_reducible refine mkQI ?_); (repeat ((first | (with_reducible refine mkQU ?_) | simp only [brGen]); try simp (maxSteps := 4000000) +contextual only [↓ S2, S2, vIte, ↓reduceIte, Int.reduceNe, Nat.reduceEqDiff, reduceCtorEq, Nat.reduceLeDiff, Nat.reduceAdd, Nat.reduceLT, hget_c, hset_c, hdel_c, neN, neA_cons, neA_nil, hk, Int.toNat_natCast, hil, List.length_map, hd1, hd2, hd3, hk1, hk2, decide_true, decide_false, Int.reduceEq, Int.reduceLT, gt_iff_lt])); (try simp +contextual (disch := omega) only [Z2, hk, Int.toNat_natCast, hil, List.length_map, hd1, hd2, hd3, hk1, hk2, decide_true, decide_false, Int.reduceEq, Int.reduceLT, gt_iff_lt]); (repeat' (first | (with_reducible intro h) | (with_reducible refine And.intro (by omega) ?_) | (with_reducible refine exP (by omega) ?_) | (with_reducible apply And.intro))))
                all_goals first
                  | (exfalso; omega)
                  | exact nx ⟨j + 1, by omega⟩ (by simp; omega) (by simp [E2]) (by rw [hst, List.map_set])
                  | trace_state
              · rw [if_neg (by simp only [ne_eq, hv, decide_false, Bool.and_false]; exact Bool.false_ne_true)] at hst
                ((try with_reducible refine mkQI ?_); (repeat ((first | (with_reducible refine mkQU ?_) | simp only [brGen]); try simp (maxSteps := 4000000) +contextual only [↓ S2, S2, vIte, ↓reduceIte, Int.reduceNe, Nat.reduceEqDiff, reduceCtorEq, Nat.reduceLeDiff, Nat.reduceAdd, Nat.reduceLT, hget_c, hset_c, hdel_c, neN, neA_cons, neA_nil, hk, Int.toNat_natCast, hil, List.length_map, hd1, hd2, hd3, hk1, hk2, decide_true, decide_false, Int.reduceEq, Int.reduceLT, gt_iff_lt])); (try simp +contextual (disch := omega) only [Z2, hk, Int.toNat_natCast, hil, List.length_map, hd1, hd2, hd3, hk1, hk2, decide_true, decide_false, Int.reduceEq, Int.reduceLT, gt_iff_lt]); (repeat' (first | (with_reducible intro h) | (with_reducible refine And.intro (by omega) ?_) | (with_reducible refine exP (by omega) ?_) | (with_reducible apply And.intro))))
                all_goals first
                  | (exfalso; omega)
                  | exact nx ⟨j + 1, by omega⟩ (by simp; omega) (by simp [E2]) (by rw [hst])
                  | trace_state
        · obtain rfl : j = T[i].length := by omega
          ((try with_reducible refine mkQI ?_); (repeat ((first | (with_reducible refine mkQU ?_) | simp only [brGen]); try simp (maxSteps := 4000000) +contextual only [↓ S2, S2, vIte, ↓reduceIte, Int.reduceNe, Nat.reduceEqDiff, reduceCtorEq, Nat.reduceLeDiff, Nat.reduceAdd, Nat.reduceLT, hget_c, hset_c, hdel_c, neN, neA_cons, neA_nil, ])); (try simp +contextual (disch := omega) only [Z2, ]); (repeat' (first | (with_reducible intro h) | (with_reducible refine And.intro (by omega) ?_) | (with_reducible refine exP (by omega) ?_) | (with_reducible apply And.intro))))
          all_goals try (exfalso; omega)
          exact nx ⟨i + 1, by omega⟩ (by simp; omega) (by simp [E2]) (by simp only [iD_end hlt2 h0])
      · have hsk := pD_skip (goal := goal) hlt2 h0
        ((try with_reducible refine mkQI ?_); (repeat ((first | (with_reducible refine mkQU ?_) | simp only [brGen]); try simp (maxSteps := 4000000) +contextual only [↓ S2, S2, vIte, ↓reduceIte, Int.reduceNe, Nat.reduceEqDiff, reduceCtorEq, Nat.reduceLeDiff, Nat.reduceAdd, Nat.reduceLT, hget_c, hset_c, hdel_c, neN, neA_cons, neA_nil, hpl, hpa, List.length_map])); (try simp +contextual (disch := omega) only [Z2, hpl, hpa, List.length_map]); (repeat' (first | (with_reducible intro h) | (with_reducible refine And.intro (by omega) ?_) | (with_reducible refine exP (by omega) ?_) | (with_reducible apply And.intro))))
        all_goals first
          | (exfalso; omega)
          | exact nx ⟨i + 1, by omega⟩ (by simp; omega) (by simp [E2]) (by simp only [hsk])
          | trace_state
    · obtain rfl : i = T.length := by omega
      ((try with_reducible refine mkQI ?_); (repeat ((first | (with_reducible refine mkQU ?_) | simp only [brGen]); try simp (maxSteps := 4000000) +contextual only [↓ S2, S2, vIte, ↓reduceIte, Int.reduceNe, Nat.reduceEqDiff, reduceCtorEq, Nat.reduceLeDiff, Nat.reduceAdd, Nat.reduceLT, hget_c, hset_c, hdel_c, neN, neA_cons, neA_nil, ])); (try simp +contextual (disch := omega) only [Z2, ]); (repeat' (first | (with_reducible intro h) | (with_reducible refine And.intro (by omega) ?_) | (with_reducible refine exP (by omega) ?_) | (with_reducible apply And.intro))))
      all_goals try (exfalso; omega)
      exact nx ⟨m + 1, by omega⟩ (by simp; omega) (by simp [E2]) (by simp only [pD_end])
  · obtain rfl : m = T.length := by omega
    ((try with_reducible refine mkQI ?_); (repeat ((first | (with_reducible refine mkQU ?_) | simp only [brGen]); try simp (maxSteps := 4000000) +contextual only [↓ S2, S2, vIte, ↓reduceIte, Int.reduceNe, Nat.reduceEqDiff, reduceCtorEq, Nat.reduceLeDiff, Nat.reduceAdd, Nat.reduceLT, hget_c, hset_c, hdel_c, neN, neA_cons, neA_nil, ])); (try simp +contextual (disch := omega) only [Z2, ]); (repeat' (first | (with_reducible intro h) | (with_reducible refine And.intro (by omega) ?_) | (with_reducible refine exP (by omega) ?_) | (with_reducible apply And.intro))))
    all_goals try (exfalso; omega)
    exact ⟨_, ⟨r0, rfl, rfl⟩, rfl⟩
end Go.Proofs.YtbdmpkidcpblaaaGreat

namespace Go.Proofs.YtbdmpkidcpblaaaGreat
open Go.Gh
set_option maxRecDepth 20000
set_option linter.unusedSimpArgs false
set_option linter.unusedVariables false
theorem q65 (T : List (List Int)) (hT : okT T) (goal : Nat) (hg : goal < T.length) : Pure Tryz.prog 65 [TbS T, I goal] (· = IS (farD (dst T goal))) :=
  Pure.bor ((o65 T hT goal hg []).mono fun v H' ⟨H1, ⟨r, h1, h2⟩, h3⟩ => by
    subst h1; subst h2; subst h3
    exact bor_IS hget_new (by simp [farD, dst, dL_len]))
theorem q37 (T : List (List Int)) (hT : okT T) (hp : posT T) (goal : Nat) (hg : goal < T.length) : Pure Tryz.prog 37 [TbS T, I goal] (· = IS (dst T goal)) :=
  Pure.bor ((o37 T hT hp goal hg []).mono fun v H' ⟨H1, ⟨r, h1, h2⟩, h3⟩ => by
    subst h1; subst h2; subst h3
    exact bor_IS hget_new (by simp [dst, dL_len]))
end Go.Proofs.YtbdmpkidcpblaaaGreat

