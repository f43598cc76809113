/- The law FnExactTreeOrder returns true whatever the input, and the input reads behind the call as before. No condition. -/
import Derived.Test.YtkepdhkomchlgaaGreatCto18
namespace Go.Proofs.YtkepdhkomchlgaaGreat
open Go.Gh
set_option maxRecDepth 20000
set_option linter.unusedSimpArgs false
set_option linter.unusedVariables false
theorem w135 (dn : List Bool) (row : List Int) (hr : ∀ k ∈ row, -1 ≤ k ∧ k < dn.length) : Pure Tryz.prog 135 [BS dn, IS row] (· = B (metB dn row)) := by
  refine GCalls.lenA fun hlen => ?_
  have hl1 := hlen.1.1
  have hl2 := hlen.2.1.1
  simp only [List.length_map, maxL] at hl1 hl2
  refine gstart mxd i135 rfl (by simp) ?_; simp (maxSteps := 2000000) only [↓ S2, S2, vIte, ↓reduceIte, Int.reduceNe, Nat.reduceEqDiff, reduceCtorEq, Nat.reduceLeDiff, Nat.reduceAdd, Nat.reduceLT]
  ((try with_reducible refine mkQI ?_); (repeat ((first | (with_reducible refine mkQU ?_) | simp only [brGen]); try simp (maxSteps := 4000000) +contextual only [↓ S2, S2, vIte, ↓reduceIte, Int.reduceNe, Nat.reduceEqDiff, reduceCtorEq, Nat.reduceLeDiff, Nat.reduceAdd, Nat.reduceLT, hget_c, hset_c, hdel_c, neN, neA_cons, neA_nil, ])); (try simp +contextual (disch := omega) only [Z2, ]); (repeat' (first | (with_reducible intro h) | (with_reducible refine And.intro (by omega) ?_) | (with_reducible refine exP (by omega) ?_) | (with_reducible apply And.intro))))
  refine wloop mxd (ι := { i : Nat // i ≤ row.length ∧ ∀ k ∈ row.take i, (decide (k < 0) || dn.getD k.toNat false) = true }) (fun i => [(0, BS dn), (1, IS row), (5, I i.1)]) (fun _ => []) (fun i => row.length - i.1) ⟨0, by simp⟩ (by simp [E2]) rfl ?_
  rintro ⟨i, hi, hn⟩
  rcases Nat.lt_or_ge i row.length with hlt | hge
  · have hk := hr row[i] (List.getElem_mem hlt)
    by_cases h0 : 0 ≤ row[i]
    · have hd : row[i].toNat < dn.length := by omega
      have hg : dn.getD row[i].toNat false = dn[row[i].toNat] := getD_lt hd
      by_cases hb : dn[row[i].toNat] = true
      · ((try with_reducible refine mkQI ?_); (repeat ((first | (with_reducible refine mkQU ?_) | simp only [brGen]); try simp (maxSteps := 4000000) +contextual only [↓ S2, S2, vIte, ↓reduceIte, Int.reduceNe, Nat.reduceEqDiff, reduceCtorEq, Nat.reduceLeDiff, Nat.reduceAdd, Nat.reduceLT, hget_c, hset_c, hdel_c, neN, neA_cons, neA_nil, h0, hb])); (try simp +contextual (disch := omega) only [Z2, h0, hb]); (repeat' (first | (with_reducible intro h) | (with_reducible refine And.intro (by omega) ?_) | (with_reducible refine exP (by omega) ?_) | (with_reducible apply And.intro))))
        all_goals first
          | exact nx ⟨i + 1, by omega, takeP_step hlt (by rw [hg, hb]; simp) hn⟩ (by simp; omega) (by simp [E2]) rfl
          | (exfalso; omega)
      · have hb' : dn[row[i].toNat] = false := by simpa using hb
        have e : metB dn row = false := all_no hlt (by rw [hg, hb']; simp; omega)
        rw [e]
        ((try with_reducible refine mkQI ?_); (repeat ((first | (with_reducible refine mkQU ?_) | simp only [brGen]); try simp (maxSteps := 4000000) +contextual only [↓ S2, S2, vIte, ↓reduceIte, Int.reduceNe, Nat.reduceEqDiff, reduceCtorEq, Nat.reduceLeDiff, Nat.reduceAdd, Nat.reduceLT, hget_c, hset_c, hdel_c, neN, neA_cons, neA_nil, h0, hb'])); (try simp +contextual (disch := omega) only [Z2, h0, hb']); (repeat' (first | (with_reducible intro h) | (with_reducible refine And.intro (by omega) ?_) | (with_reducible refine exP (by omega) ?_) | (with_reducible apply And.intro))))
        all_goals first | rfl | (exfalso; omega)
    · ((try with_reducible refine mkQI ?_); (repeat ((first | (with_reducible refine mkQU ?_) | simp only [brGen]); try simp (maxSteps := 4000000) +contextual only [↓ S2, S2, vIte, ↓reduceIte, Int.reduceNe, Nat.reduceEqDiff, reduceCtorEq, Nat.reduceLeDiff, Nat.reduceAdd, Nat.reduceLT, hget_c, hset_c, hdel_c, neN, neA_cons, neA_nil, h0])); (try simp +contextual (disch := omega) only [Z2, h0]); (repeat' (first | (with_reducible intro h) | (with_reducible refine And.intro (by omega) ?_) | (with_reducible refine exP (by omega) ?_) | (with_reducible apply And.intro))))
      all_goals first
        | exact nx ⟨i + 1, by omega, takeP_step hlt (by have : row[i] < 0 := by omega
                                                        simp [this]) hn⟩ (by simp; omega) (by simp [E2]) rfl
        | (exfalso; omega)
  · obtain rfl : i = row.length := by omega
    rw [List.take_length] at hn
    have e : metB dn row = true := all_yes hn
    rw [e]
    ((try with_reducible refine mkQI ?_); (repeat ((first | (with_reducible refine mkQU ?_) | simp only [brGen]); try simp (maxSteps := 4000000) +contextual only [↓ S2, S2, vIte, ↓reduceIte, Int.reduceNe, Nat.reduceEqDiff, reduceCtorEq, Nat.reduceLeDiff, Nat.reduceAdd, Nat.reduceLT, hget_c, hset_c, hdel_c, neN, neA_cons, neA_nil, ])); (try simp +contextual (disch := omega) only [Z2, ]); (repeat' (first | (with_reducible intro h) | (with_reducible refine And.intro (by omega) ?_) | (with_reducible refine exP (by omega) ?_) | (with_reducible apply And.intro))))
    all_goals first | rfl | (exfalso; omega)
set_option maxHeartbeats 4000000 in
theorem o76 (T : List (List Int)) (hT : okT T) (H : GH) : GCalls Tryz.prog 76 [TbS T] H (fun v H' => ∃ H1, (∃ r, v = .tup [.own r 1 0 (ordL T).length, B (ordB T)] ∧ H1 = [(r, 1, (ordL T).map I)]) ∧ H' = H1 ++ H) := by
  have h0 : GCalls Tryz.prog 76 [TbS T] H (fun v H' => ∃ r L, v = .tup [.own r 1 0 (ordL T).length, B (ordB T)] ∧ hget L r = some (1, (ordL T).map I) ∧ H' = L ++ H) := by
    have hTl := hT.1
    refine gstart mxd i76 rfl (by simp) ?_; simp (maxSteps := 2000000) only [↓ S2, S2, vIte, ↓reduceIte, Int.reduceNe, Nat.reduceEqDiff, reduceCtorEq, Nat.reduceLeDiff, Nat.reduceAdd, Nat.reduceLT]
    ((try with_reducible refine mkQI ?_); (repeat ((first | (with_reducible refine mkQU ?_) | simp only [brGen]); try simp (maxSteps := 4000000) +contextual only [↓ S2, S2, vIte, ↓reduceIte, Int.reduceNe, Nat.reduceEqDiff, reduceCtorEq, Nat.reduceLeDiff, Nat.reduceAdd, Nat.reduceLT, hget_c, hset_c, hdel_c, neN, neA_cons, neA_nil, ])); (try simp +contextual (disch := omega) only [Z2, ]); (repeat' (first | (with_reducible intro h) | (with_reducible refine And.intro (by omega) ?_) | (with_reducible refine exP (by omega) ?_) | (with_reducible apply And.intro))))
    all_goals try (exfalso; omega)
    rename_i q0 _ d0
    refine wloopN mxd (ι := { y : (Nat × Nat) × List Int // ordI T y.2 }) (fun y => [(0, TbS T), (4, .own y.1.1.1 1 0 y.1.2.length), (5, .own y.1.1.2 1 0 T.length)]) (fun y => (y.1.1.2, 1, (dnL T.length y.1.2).map B) :: (y.1.1.1, 1, y.1.2.map I) :: H) (fun y => T.length - y.1.2.length) ⟨((q0, d0), []), ordI_start T⟩ (by simp [E2]) (by simp [dnL_zero]) ?_
    rintro ⟨⟨⟨q, d⟩, out⟩, hO⟩ hn
    dsimp only at hO hn ⊢
    replace hn := neH_of hn
    (replace hn := hn; simp only [neH_cons, neH_nil, neA_cons, neA_nil, and_true, true_and] at hn)
    have hol := hO.1
    have hdl := dnL_len T.length out
    rcases Nat.lt_or_ge out.length T.length with hlt | hge
    · ((try with_reducible refine mkQI ?_); (repeat ((first | (with_reducible refine mkQU ?_) | simp only [brGen]); try simp (maxSteps := 4000000) +contextual only [↓ S2, S2, vIte, ↓reduceIte, Int.reduceNe, Nat.reduceEqDiff, reduceCtorEq, Nat.reduceLeDiff, Nat.reduceAdd, Nat.reduceLT, hget_c, hset_c, hdel_c, neN, neA_cons, neA_nil, hn])); (try simp +contextual (disch := omega) only [Z2, hn]); (repeat' (first | (with_reducible intro h) | (with_reducible refine And.intro (by omega) ?_) | (with_reducible refine exP (by omega) ?_) | (with_reducible apply And.intro))))
      all_goals try (exfalso; omega)
      refine wloop mxd (ι := { m : Nat // m ≤ T.length }) (fun m => [(0, TbS T), (4, .own q 1 0 out.length), (5, .own d 1 0 T.length), (6, I (firstG T.length (rdyT T out) m.1)), (7, I ((m.1 : Int) - 1))]) (fun m => (d, 1, (dnL T.length out).map B) :: (q, 1, out.map I) :: H) (fun m => m.1) ⟨T.length, Nat.le_refl _⟩ (by rw [firstG_top]; simp [E2]) rfl ?_
      rintro ⟨m, hm⟩
      rcases Nat.eq_zero_or_pos m with hz | hp
      · subst hz
        simp only [firstG_zero]
        have hfr := firstI_rng T.length (rdyT T out)
        by_cases hf : firstI T.length (rdyT T out) < 0
        · obtain ⟨e1, e2⟩ := ordI_stuck hO hlt hf
          rw [e1, e2]
          ((try with_reducible refine mkQI ?_); (repeat ((first | (with_reducible refine mkQU ?_) | simp only [brGen]); try simp (maxSteps := 4000000) +contextual only [↓ S2, S2, vIte, ↓reduceIte, Int.reduceNe, Nat.reduceEqDiff, reduceCtorEq, Nat.reduceLeDiff, Nat.reduceAdd, Nat.reduceLT, hget_c, hset_c, hdel_c, neN, neA_cons, neA_nil, hn, hf])); (try simp +contextual (disch := omega) only [Z2, hn, hf]); (repeat' (first | (with_reducible intro h) | (with_reducible refine And.intro (by omega) ?_) | (with_reducible refine exP (by omega) ?_) | (with_reducible apply And.intro))))
          all_goals try (exfalso; omega)
          rename_i r5
          exact ⟨r5, [(r5, _), (d, _), (q, _)], rfl, by simp [hget], rfl⟩
        · have hnx := ordI_next hO hlt (by omega)
          obtain ⟨a, ha⟩ : ∃ a : Nat, firstI T.length (rdyT T out) = a := ⟨(firstI T.length (rdyT T out)).toNat, by omega⟩
          rw [ha] at hnx hfr hf ⊢
          have hal : a < T.length := by omega
          ((try with_reducible refine mkQI ?_); (repeat ((first | (with_reducible refine mkQU ?_) | simp only [brGen]); try simp (maxSteps := 4000000) +contextual only [↓ S2, S2, vIte, ↓reduceIte, Int.reduceNe, Nat.reduceEqDiff, reduceCtorEq, Nat.reduceLeDiff, Nat.reduceAdd, Nat.reduceLT, hget_c, hset_c, hdel_c, neN, neA_cons, neA_nil, hn, hf, List.length_append, List.length_singleton, List.length_map, List.length_take, List.length_set, hdl, maxLv])); (try simp +contextual (disch := omega) only [Z2, hn, hf, List.length_append, List.length_singleton, List.length_map, List.length_take, List.length_set, hdl, maxLv]); (repeat' (first | (with_reducible intro h) | (with_reducible refine And.intro (by omega) ?_) | (with_reducible refine exP (by omega) ?_) | (with_reducible apply And.intro))))
          all_goals try (exfalso; omega)
          rename_i r5 _ r6
          refine nxF ⟨((r6, d), out ++ [(a : Int)]), hnx⟩ (by simp; omega) (FE.perm (H := [_, _, _]) (L := [(d, _), (r6, _)]) (by repeat' (first | exact trivial | (refine And.intro (by simp only [hget_c, *, if_true, if_false]; rfl) (And.intro (by simp [names_cons, names_nil, *]) ?_))))) (by simp [E2]) ?_
          rw [dnL_snoc hal, List.map_set, List.take_of_length_le (by simp), List.map_append]
          rfl
      · obtain ⟨j, rfl⟩ : ∃ j, m = j + 1 := ⟨m - 1, by omega⟩
        have hj : ((j + 1 : Nat) : Int) - 1 = j := by omega
        have hjl : j < T.length := by omega
        have hjd : j < (dnL T.length out).length := by omega
        have hrd := rdyT_eq hT (out := out) hjl
        have hdj := dnL_get (n := T.length) (out := out) hjd
        have hrow := fun k hk => (hT.2 _ (List.getElem_mem hjl)).2 k hk
        by_cases hd : hasI out (j : Int) = true
        · rw [hd] at hdj hrd
          have hno : rdyT T out j = false := by rw [hrd]; rfl
          have hg := firstG_no (n := T.length) hno
          simp only [hj]
          ((try with_reducible refine mkQI ?_); (repeat ((first | (with_reducible refine mkQU ?_) | simp only [brGen]); try simp (maxSteps := 4000000) +contextual only [↓ S2, S2, vIte, ↓reduceIte, Int.reduceNe, Nat.reduceEqDiff, reduceCtorEq, Nat.reduceLeDiff, Nat.reduceAdd, Nat.reduceLT, hget_c, hset_c, hdel_c, neN, neA_cons, neA_nil, hn, hdj, hdl, List.length_map])); (try simp +contextual (disch := omega) only [Z2, hn, hdj, hdl, List.length_map]); (repeat' (first | (with_reducible intro h) | (with_reducible refine And.intro (by omega) ?_) | (with_reducible refine exP (by omega) ?_) | (with_reducible apply And.intro))))
          all_goals first
            | exact nx ⟨j, by omega⟩ (by simp) (by simp only [hg]; simp [E2]) rfl
            | (exfalso; omega)
            | trace_state
        · have hd' : hasI out (j : Int) = false := by simpa using hd
          rw [hd'] at hdj hrd
          simp only [Bool.not_false, Bool.true_and] at hrd
          simp only [hj]
          ((try with_reducible refine mkQI ?_); (repeat ((first | (with_reducible refine mkQU ?_) | simp only [brGen]); try simp (maxSteps := 4000000) +contextual only [↓ S2, S2, vIte, ↓reduceIte, Int.reduceNe, Nat.reduceEqDiff, reduceCtorEq, Nat.reduceLeDiff, Nat.reduceAdd, Nat.reduceLT, hget_c, hset_c, hdel_c, neN, neA_cons, neA_nil, hn, hdj, hdl, List.length_map])); (try simp +contextual (disch := omega) only [Z2, hn, hdj, hdl, List.length_map]); (repeat' (first | (with_reducible intro h) | (with_reducible refine And.intro (by omega) ?_) | (with_reducible refine exP (by omega) ?_) | (with_reducible apply And.intro))))
          all_goals try (exfalso; omega)
          refine callS.borA (w135 (dnL T.length out) T[j] (by rw [hdl]; exact hrow)) (.cons (bor_BS (by simp [hget_c]) hdl) (.cons .refl .nil)) rfl ?_
          by_cases hm2 : metB (dnL T.length out) T[j] = true
          · rw [hm2] at hrd
            have hg := firstG_yes hjl hrd
            ((try with_reducible refine mkQI ?_); (repeat ((first | (with_reducible refine mkQU ?_) | simp only [brGen]); try simp (maxSteps := 4000000) +contextual only [↓ S2, S2, vIte, ↓reduceIte, Int.reduceNe, Nat.reduceEqDiff, reduceCtorEq, Nat.reduceLeDiff, Nat.reduceAdd, Nat.reduceLT, hget_c, hset_c, hdel_c, neN, neA_cons, neA_nil, hn, hm2])); (try simp +contextual (disch := omega) only [Z2, hn, hm2]); (repeat' (first | (with_reducible intro h) | (with_reducible refine And.intro (by omega) ?_) | (with_reducible refine exP (by omega) ?_) | (with_reducible apply And.intro))))
            all_goals first
              | exact nx ⟨j, by omega⟩ (by simp) (by simp only [hg]; simp [E2]) rfl
              | (exfalso; omega)
              | trace_state
          · have hm2' : metB (dnL T.length out) T[j] = false := by simpa using hm2
            rw [hm2'] at hrd
            have hg := firstG_no (n := T.length) hrd
            ((try with_reducible refine mkQI ?_); (repeat ((first | (with_reducible refine mkQU ?_) | simp only [brGen]); try simp (maxSteps := 4000000) +contextual only [↓ S2, S2, vIte, ↓reduceIte, Int.reduceNe, Nat.reduceEqDiff, reduceCtorEq, Nat.reduceLeDiff, Nat.reduceAdd, Nat.reduceLT, hget_c, hset_c, hdel_c, neN, neA_cons, neA_nil, hn, hm2'])); (try simp +contextual (disch := omega) only [Z2, hn, hm2']); (repeat' (first | (with_reducible intro h) | (with_reducible refine And.intro (by omega) ?_) | (with_reducible refine exP (by omega) ?_) | (with_reducible apply And.intro))))
            all_goals first
              | exact nx ⟨j, by omega⟩ (by simp) (by simp only [hg]; simp [E2]) rfl
              | (exfalso; omega)
              | trace_state
    · obtain ⟨e1, e2⟩ := ordI_end hO (by omega)
      rw [e1, e2]
      ((try with_reducible refine mkQI ?_); (repeat ((first | (with_reducible refine mkQU ?_) | simp only [brGen]); try simp (maxSteps := 4000000) +contextual only [↓ S2, S2, vIte, ↓reduceIte, Int.reduceNe, Nat.reduceEqDiff, reduceCtorEq, Nat.reduceLeDiff, Nat.reduceAdd, Nat.reduceLT, hget_c, hset_c, hdel_c, neN, neA_cons, neA_nil, hn])); (try simp +contextual (disch := omega) only [Z2, hn]); (repeat' (first | (with_reducible intro h) | (with_reducible refine And.intro (by omega) ?_) | (with_reducible refine exP (by omega) ?_) | (with_reducible apply And.intro))))
      all_goals try (exfalso; omega)
      exact ⟨q, [(d, _), (q, _)], rfl, by simp [hget, hn], rfl⟩
  refine h0.fr ?_
  rintro v H' ⟨r, L, rfl, hr, rfl⟩
  exact ⟨_, _, FR.perm (H := L) (L := [(r, 1, (ordL T).map I)]) ⟨hr, by simp [names], trivial⟩, _, ⟨r, rfl, rfl⟩, rfl⟩
theorem o33 (g : Gram) (t : List Nod) (hg : smGr g) (hl : t.length ≤ 1048576) (hk : ∀ x ∈ t, x.kids.length ≤ 1048576) (H : GH) : GCalls Tryz.prog 33 [Gr g, Tr t] H (fun v H' => ∃ H1, (∃ r, v = .tup [.own r 1 0 (ordL (tabI g t)).length, B (ordB (tabI g t))] ∧ H1 = [(r, 1, (ordL (tabI g t)).map I)]) ∧ H' = H1 ++ H) := by
  refine gstart mxd i33 rfl (by simp) ?_; simp (maxSteps := 2000000) only [↓ S2, S2, vIte, ↓reduceIte, Int.reduceNe, Nat.reduceEqDiff, reduceCtorEq, Nat.reduceLeDiff, Nat.reduceAdd, Nat.reduceLT]
  ((try with_reducible refine mkQI ?_); (repeat ((first | (with_reducible refine mkQU ?_) | simp only [brGen]); try simp (maxSteps := 4000000) +contextual only [↓ S2, S2, vIte, ↓reduceIte, Int.reduceNe, Nat.reduceEqDiff, reduceCtorEq, Nat.reduceLeDiff, Nat.reduceAdd, Nat.reduceLT, hget_c, hset_c, hdel_c, neN, neA_cons, neA_nil, ])); (try simp +contextual (disch := omega) only [Z2, ]); (repeat' (first | (with_reducible intro h) | (with_reducible refine And.intro (by omega) ?_) | (with_reducible refine exP (by omega) ?_) | (with_reducible apply And.intro))))
  refine callS.eq (q28 g t hg hl hk) ?_
  ((try with_reducible refine mkQI ?_); (repeat ((first | (with_reducible refine mkQU ?_) | simp only [brGen]); try simp (maxSteps := 4000000) +contextual only [↓ S2, S2, vIte, ↓reduceIte, Int.reduceNe, Nat.reduceEqDiff, reduceCtorEq, Nat.reduceLeDiff, Nat.reduceAdd, Nat.reduceLT, hget_c, hset_c, hdel_c, neN, neA_cons, neA_nil, ])); (try simp +contextual (disch := omega) only [Z2, ]); (repeat' (first | (with_reducible intro h) | (with_reducible refine And.intro (by omega) ?_) | (with_reducible refine exP (by omega) ?_) | (with_reducible apply And.intro))))
  refine callS.of (o76 (tabI g t) (tabI_ok hg t) _) ?_
  rintro v H' ⟨H1, ⟨r, rfl, rfl⟩, rfl⟩ hn
  ((try with_reducible refine mkQI ?_); (repeat ((first | (with_reducible refine mkQU ?_) | simp only [brGen]); try simp (maxSteps := 4000000) +contextual only [↓ S2, S2, vIte, ↓reduceIte, Int.reduceNe, Nat.reduceEqDiff, reduceCtorEq, Nat.reduceLeDiff, Nat.reduceAdd, Nat.reduceLT, hget_c, hset_c, hdel_c, neN, neA_cons, neA_nil, ])); (try simp +contextual (disch := omega) only [Z2, ]); (repeat' (first | (with_reducible intro h) | (with_reducible refine And.intro (by omega) ?_) | (with_reducible refine exP (by omega) ?_) | (with_reducible apply And.intro))))
  exact ⟨_, ⟨r, rfl, rfl⟩, rfl⟩
end Go.Proofs.YtkepdhkomchlgaaGreat

