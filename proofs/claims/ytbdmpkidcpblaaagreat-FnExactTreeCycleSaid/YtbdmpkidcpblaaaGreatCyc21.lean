/- The law FnExactTreeCycle returns true whatever the input, and the input reads behind the call as before. No condition. -/
import Derived.Test.YtbdmpkidcpblaaaGreatCyc20
namespace Go.Proofs.YtbdmpkidcpblaaaGreat
open Go.Gh
set_option maxRecDepth 20000
set_option linter.unusedSimpArgs false
set_option linter.unusedVariables false
set_option maxHeartbeats 30000000 in
theorem o31 (T : List (List Int)) (hT : okT T) (i : Nat) (hi : i < T.length) (H : GH) : GCalls Tryz.prog 31 [TbS T, I i] H (fun v H' => ∃ H1, (∃ r, v = .own r 1 0 (thR T i).length ∧ H1 = [(r, 1, (thR T i).map I)]) ∧ H' = H1 ++ H) := by
  have hTl := hT.1
  have hfl := farD_len (T := T) (goal := i)
  have hfi : i < (farD (dst T i)).length := by omega
  have hfd := farD_dN (T := T) (i := i) hi hfi
  have hNT := dN_le (T := T) (i := i) hi
  have h0 : GCalls Tryz.prog 31 [TbS T, I i] H (fun v H' => ∃ r L, v = .own r 1 0 (thR T i).length ∧ hget L r = some (1, (thR T i).map I) ∧ H' = L ++ H) := by
    refine gstart mxd i31 rfl (by simp) ?_; simp (maxSteps := 2000000) only [↓ S2, S2, vIte, ↓reduceIte, Int.reduceNe, Nat.reduceEqDiff, reduceCtorEq, Nat.reduceLeDiff, Nat.reduceAdd, Nat.reduceLT]
    ((try with_reducible refine mkQI ?_); (repeat ((first | (with_reducible refine mkQU ?_) | simp only [brGen]); try simp (maxSteps := 4000000) +contextual only [↓ S2, S2, vIte, ↓reduceIte, Int.reduceNe, Nat.reduceEqDiff, reduceCtorEq, Nat.reduceLeDiff, Nat.reduceAdd, Nat.reduceLT, hget_c, hset_c, hdel_c, neN, neA_cons, neA_nil, ])); (try simp +contextual (disch := omega) only [Z2, ]); (repeat' (first | (with_reducible intro h) | (with_reducible refine And.intro (by omega) ?_) | (with_reducible refine exP (by omega) ?_) | (with_reducible apply And.intro))))
    refine callS.eq (q65 T hT i hi) ?_
    by_cases hN : dN T i = 0
    · rw [if_pos hN] at hfd
      ((try with_reducible refine mkQI ?_); (repeat ((first | (with_reducible refine mkQU ?_) | simp only [brGen]); try simp (maxSteps := 4000000) +contextual only [↓ S2, S2, vIte, ↓reduceIte, Int.reduceNe, Nat.reduceEqDiff, reduceCtorEq, Nat.reduceLeDiff, Nat.reduceAdd, Nat.reduceLT, hget_c, hset_c, hdel_c, neN, neA_cons, neA_nil, hfd, hfl, Int.toNat_natCast])); (try simp +contextual (disch := omega) only [Z2, hfd, hfl, Int.toNat_natCast]); (repeat' (first | (with_reducible intro h) | (with_reducible refine And.intro (by omega) ?_) | (with_reducible refine exP (by omega) ?_) | (with_reducible apply And.intro))))
      all_goals try (exfalso; omega)
      rename_i q0
      refine wloop mxd (ι := Unit) (fun _ => [(0, TbS T), (1, I i), (5, IS (farD (dst T i))), (6, .own q0 1 0 0), (7, I i), (8, I (-1))]) (fun _ => (q0, 1, []) :: H) (fun _ => 0) () (by simp [E2]) rfl ?_
      rintro ⟨⟩
      ((try with_reducible refine mkQI ?_); (repeat ((first | (with_reducible refine mkQU ?_) | simp only [brGen]); try simp (maxSteps := 4000000) +contextual only [↓ S2, S2, vIte, ↓reduceIte, Int.reduceNe, Nat.reduceEqDiff, reduceCtorEq, Nat.reduceLeDiff, Nat.reduceAdd, Nat.reduceLT, hget_c, hset_c, hdel_c, neN, neA_cons, neA_nil, ])); (try simp +contextual (disch := omega) only [Z2, ]); (repeat' (first | (with_reducible intro h) | (with_reducible refine And.intro (by omega) ?_) | (with_reducible refine exP (by omega) ?_) | (with_reducible apply And.intro))))
      all_goals try (exfalso; omega)
      have e : thR T i = [] := List.length_eq_zero_iff.1 (by rw [thR_len, hN])
      exact ⟨q0, [(q0, 1, [])], by rw [e]; rfl, by rw [e]; simp [hget], rfl⟩
    · rw [if_neg hN] at hfd
      ((try with_reducible refine mkQI ?_); (repeat ((first | (with_reducible refine mkQU ?_) | simp only [brGen]); try simp (maxSteps := 4000000) +contextual only [↓ S2, S2, vIte, ↓reduceIte, Int.reduceNe, Nat.reduceEqDiff, reduceCtorEq, Nat.reduceLeDiff, Nat.reduceAdd, Nat.reduceLT, hget_c, hset_c, hdel_c, neN, neA_cons, neA_nil, hfd, hfl, Int.toNat_natCast])); (try simp +contextual (disch := omega) only [Z2, hfd, hfl, Int.toNat_natCast]); (repeat' (first | (with_reducible intro h) | (with_reducible refine And.intro (by omega) ?_) | (with_reducible refine exP (by omega) ?_) | (with_reducible apply And.intro))))
      all_goals try (exfalso; omega)
      rename_i q0
      refine wloopN mxd (ι := { y : Nat × Nat // y.2 ≤ dN T i }) (fun y => [(0, TbS T), (1, I i), (5, IS (farD (dst T i))), (6, .own y.1.1 1 0 y.1.2), (7, I (stN T i (dN T i) y.1.2).2), (8, I ((dN T i : Int) - y.1.2))]) (fun y => (y.1.1, 1, (stN T i (dN T i) y.1.2).1.map I) :: H) (fun y => dN T i - y.1.2) ⟨(q0, 0), by simp⟩ (by simp [E2, stN]) (by simp [stN]) ?_
      rintro ⟨⟨q, m⟩, hm⟩ hn
      dsimp only at hm hn ⊢
      replace hn := neH_of hn
      (replace hn := hn; simp only [neH_cons, neH_nil, neA_cons, neA_nil, and_true, true_and] at hn)
      have hsl := stN_len T i (dN T i) m
      have hsr := stN_rng hT (N := dN T i) hi m
      rcases Nat.lt_or_ge m (dN T i) with hlt | hge
      · obtain ⟨a, ha⟩ : ∃ a : Nat, (stN T i (dN T i) m).2 = a := ⟨(stN T i (dN T i) m).2.toNat, by omega⟩
        have ha2 : a < T.length := by omega
        have hst : (stN T i (dN T i) (m + 1)).1 = (stN T i (dN T i) m).1 ++ [(a : Int)] := by simp only [stN, ha]
        have hst2 : (stN T i (dN T i) (m + 1)).2 = max (lstI (dC T i (dN T i - m) (dst T i)) T[a]) 0 := by simp only [stN, ha, nxA, Int.toNat_natCast]; rw [getD_lt ha2]
        have hrl := (hT.2 _ (List.getElem_mem ha2)).1
        rw [ha]
        ((try with_reducible refine mkQI ?_); (repeat ((first | (with_reducible refine mkQU ?_) | simp only [brGen]); try simp (maxSteps := 4000000) +contextual only [↓ S2, S2, vIte, ↓reduceIte, Int.reduceNe, Nat.reduceEqDiff, reduceCtorEq, Nat.reduceLeDiff, Nat.reduceAdd, Nat.reduceLT, hget_c, hset_c, hdel_c, neN, neA_cons, neA_nil, hn, hsl, List.length_append, List.length_singleton, List.length_map, maxLv])); (try simp +contextual (disch := omega) only [Z2, hn, hsl, List.length_append, List.length_singleton, List.length_map, maxLv]); (repeat' (first | (with_reducible intro h) | (with_reducible refine And.intro (by omega) ?_) | (with_reducible refine exP (by omega) ?_) | (with_reducible apply And.intro))))
        all_goals try (exfalso; omega)
        rename_i r3 _ r4
        refine wloop mxd (ι := { j : Nat // j ≤ T[a].length }) (fun j => [(0, TbS T), (1, I i), (5, IS (farD (dst T i))), (6, .own r4 1 0 (m + 1)), (7, I a), (8, I ((dN T i : Int) - m)), (9, I (lstI (dC T i (dN T i - m) (dst T i)) (T[a].take j.1))), (10, I j.1)]) (fun _ => (r4, 1, (stN T i (dN T i) (m + 1)).1.map I) :: (r3, 1, [I a]) :: H) (fun j => T[a].length - j.1) ⟨0, by omega⟩ (by simp [E2, lstI]) (by rw [hst, List.take_of_length_le (by simp [hsl]), List.map_append]; rfl) ?_
        rintro ⟨j, hj⟩
        have goT {p : Prop} (h : p) : p = True := eq_true h
        have goF {p : Prop} (h : ¬ p) : p = False := eq_false h
        rcases Nat.lt_or_ge j T[a].length with hlt3 | hge3
        · have hxr := (hT.2 _ (List.getElem_mem ha2)).2 _ (List.getElem_mem hlt3)
          have hj1 := goT (show (j : Int) < T[a].length by omega)
          by_cases hx0 : T[a][j] < 0
          · have hx1 := goT hx0
            have hP : dC T i (dN T i - m) (dst T i) T[a][j] = false := by
              cases c : dC T i (dN T i - m) (dst T i) T[a][j]
              · rfl
              · have := dC_nn c; omega
            have hL : lstI (dC T i (dN T i - m) (dst T i)) (T[a].take (j + 1)) = lstI (dC T i (dN T i - m) (dst T i)) (T[a].take j) := by rw [lstI_take hlt3]; simp only [lsF, hP]; rfl
            ((try with_reducible refine mkQI ?_); (repeat ((first | (with_reducible refine mkQU ?_) | simp only [brGen]); try simp (maxSteps := 4000000) +contextual only [↓ S2, S2, vIte, ↓reduceIte, Int.reduceNe, Nat.reduceEqDiff, reduceCtorEq, Nat.reduceLeDiff, Nat.reduceAdd, Nat.reduceLT, hget_c, hset_c, hdel_c, neN, neA_cons, neA_nil, hj1, hx1, List.length_map, decide_true, decide_false])); (try simp +contextual (disch := omega) only [Z2, hj1, hx1, List.length_map, decide_true, decide_false]); (repeat' (first | (with_reducible intro h) | (with_reducible refine And.intro (by omega) ?_) | (with_reducible refine exP (by omega) ?_) | (with_reducible apply And.intro))))
            all_goals first
              | (exfalso; omega)
              | exact nx ⟨j + 1, by omega⟩ (by simp; omega) (by simp [E2, hL]) rfl
              | trace_state
          · obtain ⟨x, hx⟩ : ∃ x : Nat, T[a][j] = x := ⟨T[a][j].toNat, by omega⟩
            rw [hx] at hxr hx0
            have hx1 := goF hx0
            have hxl : x < (farD (dst T i)).length := by omega
            by_cases hn1 : dN T i - m = 1
            · have hd1 := goT (show (dN T i : Int) - m = 1 by omega)
              have hd2 := goF (show ¬ (dN T i : Int) - m > 1 by omega)
              have hd3 := goF (show ¬ 1 < (dN T i : Int) - m by omega)
              by_cases hxi : x = i
              · have hk1 := goT (show (x : Int) = i by omega)
                have hk2 := goT hxi
                have hP : dC T i (dN T i - m) (dst T i) (x : Int) = true := by unfold dC; rw [if_pos hn1, decide_eq_true]; omega
                by_cases hb : lstI (dC T i (dN T i - m) (dst T i)) (T[a].take j) < 0
                · have hb1 := goT hb
                  have hb2 : True := trivial
                  have hL : lstI (dC T i (dN T i - m) (dst T i)) (T[a].take (j + 1)) = (x : Int) := by rw [lstI_take hlt3, hx]; simp only [lsF, hP, hb1, hb2, decide_true, decide_false]; rfl
                  ((try with_reducible refine mkQI ?_); (repeat ((first | (with_reducible refine mkQU ?_) | simp only [brGen]); try simp (maxSteps := 4000000) +contextual only [↓ S2, S2, vIte, ↓reduceIte, Int.reduceNe, Nat.reduceEqDiff, reduceCtorEq, Nat.reduceLeDiff, Nat.reduceAdd, Nat.reduceLT, hget_c, hset_c, hdel_c, neN, neA_cons, neA_nil, hj1, hx, hfl, Int.toNat_natCast, List.length_map, hx1, hd1, hd2, hd3, hk1, hk2, hb1, decide_true, decide_false, Int.reduceEq, Int.reduceLT, gt_iff_lt])); (try simp +contextual (disch := omega) only [Z2, hj1, hx, hfl, Int.toNat_natCast, List.length_map, hx1, hd1, hd2, hd3, hk1, hk2, hb1, decide_true, decide_false, Int.reduceEq, Int.reduceLT, gt_iff_lt]); (repeat' (first | (with_reducible intro h) | (with_reducible refine And.intro (by omega) ?_) | (with_reducible refine exP (by omega) ?_) | (with_reducible apply And.intro))))
                  all_goals first
                    | (exfalso; omega)
                    | exact nx ⟨j + 1, by omega⟩ (by simp; omega) (by simp [E2, hL]) rfl
                    | trace_state
                · have hb1 := goF hb
                  by_cases hc : (x : Int) < lstI (dC T i (dN T i - m) (dst T i)) (T[a].take j)
                  · have hb2 := goT hc
                    have hL : lstI (dC T i (dN T i - m) (dst T i)) (T[a].take (j + 1)) = (x : Int) := by rw [lstI_take hlt3, hx]; simp only [lsF, hP, hb1, hb2, decide_true, decide_false]; rfl
                    ((try with_reducible refine mkQI ?_); (repeat ((first | (with_reducible refine mkQU ?_) | simp only [brGen]); try simp (maxSteps := 4000000) +contextual only [↓ S2, S2, vIte, ↓reduceIte, Int.reduceNe, Nat.reduceEqDiff, reduceCtorEq, Nat.reduceLeDiff, Nat.reduceAdd, Nat.reduceLT, hget_c, hset_c, hdel_c, neN, neA_cons, neA_nil, hj1, hx, hfl, Int.toNat_natCast, List.length_map, hx1, hd1, hd2, hd3, hk1, hk2, hb1, hb2, decide_true, decide_false, Int.reduceEq, Int.reduceLT, gt_iff_lt])); (try simp +contextual (disch := omega) only [Z2, hj1, hx, hfl, Int.toNat_natCast, List.length_map, hx1, hd1, hd2, hd3, hk1, hk2, hb1, hb2, decide_true, decide_false, Int.reduceEq, Int.reduceLT, gt_iff_lt]); (repeat' (first | (with_reducible intro h) | (with_reducible refine And.intro (by omega) ?_) | (with_reducible refine exP (by omega) ?_) | (with_reducible apply And.intro))))
                    all_goals first
                      | (exfalso; omega)
                      | exact nx ⟨j + 1, by omega⟩ (by simp; omega) (by simp [E2, hL]) rfl
                      | trace_state
                  · have hb2 := goF hc
                    have hL : lstI (dC T i (dN T i - m) (dst T i)) (T[a].take (j + 1)) = lstI (dC T i (dN T i - m) (dst T i)) (T[a].take j) := by rw [lstI_take hlt3, hx]; simp only [lsF, hP, hb1, hb2, decide_true, decide_false]; rfl
                    ((try with_reducible refine mkQI ?_); (repeat ((first | (with_reducible refine mkQU ?_) | simp only [brGen]); try simp (maxSteps := 4000000) +contextual only [↓ S2, S2, vIte, ↓reduceIte, Int.reduceNe, Nat.reduceEqDiff, reduceCtorEq, Nat.reduceLeDiff, Nat.reduceAdd, Nat.reduceLT, hget_c, hset_c, hdel_c, neN, neA_cons, neA_nil, hj1, hx, hfl, Int.toNat_natCast, List.length_map, hx1, hd1, hd2, hd3, hk1, hk2, hb1, hb2, decide_true, decide_false, Int.reduceEq, Int.reduceLT, gt_iff_lt])); (try simp +contextual (disch := omega) only [Z2, hj1, hx, hfl, Int.toNat_natCast, List.length_map, hx1, hd1, hd2, hd3, hk1, hk2, hb1, hb2, decide_true, decide_false, Int.reduceEq, Int.reduceLT, gt_iff_lt]); (repeat' (first | (with_reducible intro h) | (with_reducible refine And.intro (by omega) ?_) | (with_reducible refine exP (by omega) ?_) | (with_reducible apply And.intro))))
                    all_goals first
                      | (exfalso; omega)
                      | exact nx ⟨j + 1, by omega⟩ (by simp; omega) (by simp [E2, hL]) rfl
                      | trace_state
              · have hk1 := goF (show ¬ (x : Int) = i by omega)
                have hk2 := goF hxi
                have hP : dC T i (dN T i - m) (dst T i) (x : Int) = false := by unfold dC; rw [if_pos hn1, decide_eq_false]; omega
                have hL : lstI (dC T i (dN T i - m) (dst T i)) (T[a].take (j + 1)) = lstI (dC T i (dN T i - m) (dst T i)) (T[a].take j) := by rw [lstI_take hlt3, hx]; simp only [lsF, hP]; rfl
                ((try with_reducible refine mkQI ?_); (repeat ((first | (with_reducible refine mkQU ?_) | simp only [brGen]); try simp (maxSteps := 4000000) +contextual only [↓ S2, S2, vIte, ↓reduceIte, Int.reduceNe, Nat.reduceEqDiff, reduceCtorEq, Nat.reduceLeDiff, Nat.reduceAdd, Nat.reduceLT, hget_c, hset_c, hdel_c, neN, neA_cons, neA_nil, hj1, hx, hfl, Int.toNat_natCast, List.length_map, hx1, hd1, hd2, hd3, hk1, hk2, decide_true, decide_false, Int.reduceEq, Int.reduceLT, gt_iff_lt])); (try simp +contextual (disch := omega) only [Z2, hj1, hx, hfl, Int.toNat_natCast, List.length_map, hx1, hd1, hd2, hd3, hk1, hk2, decide_true, decide_false, Int.reduceEq, Int.reduceLT, gt_iff_lt]); (repeat' (first | (with_reducible intro h) | (with_reducible refine And.intro (by omega) ?_) | (with_reducible refine exP (by omega) ?_) | (with_reducible apply And.intro))))
                all_goals first
                  | (exfalso; omega)
                  | exact nx ⟨j + 1, by omega⟩ (by simp; omega) (by simp [E2, hL]) rfl
                  | trace_state
            · have hd1 := goF (show ¬ (dN T i : Int) - m = 1 by omega)
              have hd2 := goT (show (dN T i : Int) - m > 1 by omega)
              have hd3 := goT (show 1 < (dN T i : Int) - m by omega)
              have hfx := farD_dC (T := T) (i := i) (x := x) (n := dN T i - m) (by omega) hxl (by omega)
              by_cases hxi : x = i
              · have hk1 := goT (show (x : Int) = i by omega)
                have hk2 := goT hxi
                have hP : dC T i (dN T i - m) (dst T i) (x : Int) = false := by rw [hfx]; simp [hxi]
                have hL : lstI (dC T i (dN T i - m) (dst T i)) (T[a].take (j + 1)) = lstI (dC T i (dN T i - m) (dst T i)) (T[a].take j) := by rw [lstI_take hlt3, hx]; simp only [lsF, hP]; rfl
                ((try with_reducible refine mkQI ?_); (repeat ((first | (with_reducible refine mkQU ?_) | simp only [brGen]); try simp (maxSteps := 4000000) +contextual only [↓ S2, S2, vIte, ↓reduceIte, Int.reduceNe, Nat.reduceEqDiff, reduceCtorEq, Nat.reduceLeDiff, Nat.reduceAdd, Nat.reduceLT, hget_c, hset_c, hdel_c, neN, neA_cons, neA_nil, hj1, hx, hfl, Int.toNat_natCast, List.length_map, hx1, hd1, hd2, hd3, hk1, hk2, decide_true, decide_false, Int.reduceEq, Int.reduceLT, gt_iff_lt])); (try simp +contextual (disch := omega) only [Z2, hj1, hx, hfl, Int.toNat_natCast, List.length_map, hx1, hd1, hd2, hd3, hk1, hk2, decide_true, decide_false, Int.reduceEq, Int.reduceLT, gt_iff_lt]); (repeat' (first | (with_reducible intro h) | (with_reducible refine And.intro (by omega) ?_) | (with_reducible refine exP (by omega) ?_) | (with_reducible apply And.intro))))
                all_goals first
                  | (exfalso; omega)
                  | exact nx ⟨j + 1, by omega⟩ (by simp; omega) (by simp [E2, hL]) rfl
                  | trace_state
              · have hk1 := goF (show ¬ (x : Int) = i by omega)
                have hk2 := goF hxi
                by_cases hv : (farD (dst T i))[x] = ((dN T i - m : Nat) : Int) - 1
                · have hP : dC T i (dN T i - m) (dst T i) (x : Int) = true := by rw [hfx]; simp [hxi, hv]
                  have hw : (farD (dst T i))[x] = (dN T i : Int) - m - 1 := by rw [hv]; omega
                  by_cases hb : lstI (dC T i (dN T i - m) (dst T i)) (T[a].take j) < 0
                  · have hb1 := goT hb
                    have hb2 : True := trivial
                    have hL : lstI (dC T i (dN T i - m) (dst T i)) (T[a].take (j + 1)) = (x : Int) := by rw [lstI_take hlt3, hx]; simp only [lsF, hP, hb1, hb2, decide_true, decide_false]; rfl
                    ((try with_reducible refine mkQI ?_); (repeat ((first | (with_reducible refine mkQU ?_) | simp only [brGen]); try simp (maxSteps := 4000000) +contextual only [↓ S2, S2, vIte, ↓reduceIte, Int.reduceNe, Nat.reduceEqDiff, reduceCtorEq, Nat.reduceLeDiff, Nat.reduceAdd, Nat.reduceLT, hget_c, hset_c, hdel_c, neN, neA_cons, neA_nil, hj1, hx, hfl, Int.toNat_natCast, List.length_map, hx1, hd1, hd2, hd3, hk1, hk2, hb1, decide_true, decide_false, Int.reduceEq, Int.reduceLT, gt_iff_lt])); (try simp +contextual (disch := omega) only [Z2, hj1, hx, hfl, Int.toNat_natCast, List.length_map, hx1, hd1, hd2, hd3, hk1, hk2, hb1, decide_true, decide_false, Int.reduceEq, Int.reduceLT, gt_iff_lt]); (repeat' (first | (with_reducible intro h) | (with_reducible refine And.intro (by omega) ?_) | (with_reducible refine exP (by omega) ?_) | (with_reducible apply And.intro))))
                    all_goals first
                      | (exfalso; omega)
                      | exact nx ⟨j + 1, by omega⟩ (by simp; omega) (by simp [E2, hL]) rfl
                      | trace_state
                  · have hb1 := goF hb
                    by_cases hc : (x : Int) < lstI (dC T i (dN T i - m) (dst T i)) (T[a].take j)
                    · have hb2 := goT hc
                      have hL : lstI (dC T i (dN T i - m) (dst T i)) (T[a].take (j + 1)) = (x : Int) := by rw [lstI_take hlt3, hx]; simp only [lsF, hP, hb1, hb2, decide_true, decide_false]; rfl
                      ((try with_reducible refine mkQI ?_); (repeat ((first | (with_reducible refine mkQU ?_) | simp only [brGen]); try simp (maxSteps := 4000000) +contextual only [↓ S2, S2, vIte, ↓reduceIte, Int.reduceNe, Nat.reduceEqDiff, reduceCtorEq, Nat.reduceLeDiff, Nat.reduceAdd, Nat.reduceLT, hget_c, hset_c, hdel_c, neN, neA_cons, neA_nil, hj1, hx, hfl, Int.toNat_natCast, List.length_map, hx1, hd1, hd2, hd3, hk1, hk2, hb1, hb2, decide_true, decide_false, Int.reduceEq, Int.reduceLT, gt_iff_lt])); (try simp +contextual (disch := omega) only [Z2, hj1, hx, hfl, Int.toNat_natCast, List.length_map, hx1, hd1, hd2, hd3, hk1, hk2, hb1, hb2, decide_true, decide_false, Int.reduceEq, Int.reduceLT, gt_iff_lt]); (repeat' (first | (with_reducible intro h) | (with_reducible refine And.intro (by omega) ?_) | (with_reducible refine exP (by omega) ?_) | (with_reducible apply And.intro))))
                      all_goals first
                        | (exfalso; omega)
                        | exact nx ⟨j + 1, by omega⟩ (by simp; omega) (by simp [E2, hL]) rfl
                        | trace_state
                    · have hb2 := goF hc
                      have hL : lstI (dC T i (dN T i - m) (dst T i)) (T[a].take (j + 1)) = lstI (dC T i (dN T i - m) (dst T i)) (T[a].take j) := by rw [lstI_take hlt3, hx]; simp only [lsF, hP, hb1, hb2, decide_true, decide_false]; rfl
                      ((try with_reducible refine mkQI ?_); (repeat ((first | (with_reducible refine mkQU ?_) | simp only [brGen]); try simp (maxSteps := 4000000) +contextual only [↓ S2, S2, vIte, ↓reduceIte, Int.reduceNe, Nat.reduceEqDiff, reduceCtorEq, Nat.reduceLeDiff, Nat.reduceAdd, Nat.reduceLT, hget_c, hset_c, hdel_c, neN, neA_cons, neA_nil, hj1, hx, hfl, Int.toNat_natCast, List.length_map, hx1, hd1, hd2, hd3, hk1, hk2, hb1, hb2, decide_true, decide_false, Int.reduceEq, Int.reduceLT, gt_iff_lt])); (try simp +contextual (disch := omega) only [Z2, hj1, hx, hfl, Int.toNat_natCast, List.length_map, hx1, hd1, hd2, hd3, hk1, hk2, hb1, hb2, decide_true, decide_false, Int.reduceEq, Int.reduceLT, gt_iff_lt]); (repeat' (first | (with_reducible intro h) | (with_reducible refine And.intro (by omega) ?_) | (with_reducible refine exP (by omega) ?_) | (with_reducible apply And.intro))))
                      all_goals first
                        | (exfalso; omega)
                        | exact nx ⟨j + 1, by omega⟩ (by simp; omega) (by simp [E2, hL]) rfl
                        | trace_state
                · have hP : dC T i (dN T i - m) (dst T i) (x : Int) = false := by rw [hfx]; simp [hxi, hv]
                  have hL : lstI (dC T i (dN T i - m) (dst T i)) (T[a].take (j + 1)) = lstI (dC T i (dN T i - m) (dst T i)) (T[a].take j) := by rw [lstI_take hlt3, hx]; simp only [lsF, hP]; rfl
                  ((try with_reducible refine mkQI ?_); (repeat ((first | (with_reducible refine mkQU ?_) | simp only [brGen]); try simp (maxSteps := 4000000) +contextual only [↓ S2, S2, vIte, ↓reduceIte, Int.reduceNe, Nat.reduceEqDiff, reduceCtorEq, Nat.reduceLeDiff, Nat.reduceAdd, Nat.reduceLT, hget_c, hset_c, hdel_c, neN, neA_cons, neA_nil, hj1, hx, hfl, Int.toNat_natCast, List.length_map, hx1, hd1, hd2, hd3, hk1, hk2, decide_true, decide_false, Int.reduceEq, Int.reduceLT, gt_iff_lt])); (try simp +contextual (disch := omega) only [Z2, hj1, hx, hfl, Int.toNat_natCast, List.length_map, hx1, hd1, hd2, hd3, hk1, hk2, decide_true, decide_false, Int.reduceEq, Int.reduceLT, gt_iff_lt]); (repeat' (first | (with_reducible intro h) | (with_reducible refine And.intro (by omega) ?_) | (with_reducible refine exP (by omega) ?_) | (with_reducible apply And.intro))))
                  all_goals first
                    | (exfalso; omega)
                    | exact nx ⟨j + 1, by omega⟩ (by simp; omega) (by simp [E2, hL]) rfl
                    | trace_state
        · obtain rfl : j = T[a].length := by omega
          have hj1 := goF (show ¬ (T[a].length : Int) < T[a].length by omega)
          ((try with_reducible refine mkQI ?_); (repeat ((first | (with_reducible refine mkQU ?_) | simp only [brGen]); try simp (maxSteps := 4000000) +contextual only [↓ S2, S2, vIte, ↓reduceIte, Int.reduceNe, Nat.reduceEqDiff, reduceCtorEq, Nat.reduceLeDiff, Nat.reduceAdd, Nat.reduceLT, hget_c, hset_c, hdel_c, neN, neA_cons, neA_nil, hj1, decide_false])); (try simp +contextual (disch := omega) only [Z2, hj1, decide_false]); (repeat' (first | (with_reducible intro h) | (with_reducible refine And.intro (by omega) ?_) | (with_reducible refine exP (by omega) ?_) | (with_reducible apply And.intro))))
          all_goals try (exfalso; omega)
          refine callS.eq (w66 _ _) ?_
          ((try with_reducible refine mkQI ?_); (repeat ((first | (with_reducible refine mkQU ?_) | simp only [brGen]); try simp (maxSteps := 4000000) +contextual only [↓ S2, S2, vIte, ↓reduceIte, Int.reduceNe, Nat.reduceEqDiff, reduceCtorEq, Nat.reduceLeDiff, Nat.reduceAdd, Nat.reduceLT, hget_c, hset_c, hdel_c, neN, neA_cons, neA_nil, ])); (try simp +contextual (disch := omega) only [Z2, ]); (repeat' (first | (with_reducible intro h) | (with_reducible refine And.intro (by omega) ?_) | (with_reducible refine exP (by omega) ?_) | (with_reducible apply And.intro))))
          all_goals try (exfalso; omega)
          refine nxF ⟨(r4, m + 1), by omega⟩ (by simp; omega) (FE.perm (H := [_, _]) (L := [(r4, _)]) (by repeat' (first | exact trivial | (refine And.intro (by simp only [hget_c, *, if_true, if_false]; try rfl) (And.intro (by simp [names_cons, names_nil, *]) ?_))))) (by simp [E2, hst2, List.take_length] <;> omega) rfl
      · obtain rfl : m = dN T i := by omega
        ((try with_reducible refine mkQI ?_); (repeat ((first | (with_reducible refine mkQU ?_) | simp only [brGen]); try simp (maxSteps := 4000000) +contextual only [↓ S2, S2, vIte, ↓reduceIte, Int.reduceNe, Nat.reduceEqDiff, reduceCtorEq, Nat.reduceLeDiff, Nat.reduceAdd, Nat.reduceLT, hget_c, hset_c, hdel_c, neN, neA_cons, neA_nil, hn])); (try simp +contextual (disch := omega) only [Z2, hn]); (repeat' (first | (with_reducible intro h) | (with_reducible refine And.intro (by omega) ?_) | (with_reducible refine exP (by omega) ?_) | (with_reducible apply And.intro))))
        all_goals try (exfalso; omega)
        exact ⟨q, [(q, _)], by rw [thR_len], by simp [hget, thR], rfl⟩
  refine h0.fr ?_
  rintro v H' ⟨r, L, rfl, hr, rfl⟩
  exact ⟨_, _, FR.perm (H := L) (L := [(r, 1, (thR T i).map I)]) ⟨hr, by simp [names], trivial⟩, _, ⟨r, rfl, rfl⟩, rfl⟩
end Go.Proofs.YtbdmpkidcpblaaaGreat

