/- The law FnHeights returns true whatever the input, and the input reads behind the call as before. No condition. -/
import Derived.Test.YtkmedfejmndmjaaFhe1
set_option linter.unusedSimpArgs false
set_option linter.unusedVariables false
namespace Go.Proofs.Ytkmedfejmndmjaa
open Go.Gh
set_option maxRecDepth 20000
set_option linter.unusedSimpArgs false
set_option linter.unusedVariables false
theorem o19 (g : Gram) (s : ByteArray) (out : List Int) (rb q n : Nat) (H : GH) (hg : smGr g) (ho : out.length = g.syms.length) (hn : n = g.syms.length) (h1 : hget H rb = some (1, [.own q 1 0 n])) (h2 : hget H q = some (1, out.map I)) :
    GCalls Try.prog 19 [T s, .rop 2 (Gr g), .ptr rb 1 0 0] H (fun v H' => v = I (hOf g out s) ∧ H' = H) := by
  have hl := hg.1
  have hho : hOf g out s = if ixOf (fun y : Sym => decide (y.name = s)) g.syms < 0 then 0 else out.getD (ixOf (fun y : Sym => decide (y.name = s)) g.syms).toNat 0 := rfl
  refine gstart mxd i19 rfl (by simp) ?_; simp (maxSteps := 2000000) only [↓ S2, S2, vIte, ↓reduceIte, Int.reduceNe, Nat.reduceEqDiff, reduceCtorEq, Nat.reduceLeDiff, Nat.reduceAdd, Nat.reduceLT]
  ((try with_reducible refine mkQI ?_); (repeat ((first | (with_reducible refine mkQU ?_) | simp only [brGen]); try simp (maxSteps := 4000000) +contextual only [↓ S2, S2, vIte, ↓reduceIte, Int.reduceNe, Nat.reduceEqDiff, reduceCtorEq, Nat.reduceLeDiff, Nat.reduceAdd, Nat.reduceLT, hget_c, hset_c, hdel_c, neN, neA_cons, neA_nil, ])); (try simp +contextual (disch := omega) only [Z2, ]); (repeat' (first | (with_reducible intro h) | (with_reducible refine And.intro (by omega) ?_) | (with_reducible refine exP (by omega) ?_) | (with_reducible apply And.intro))))
  refine wloop mxd (ι := { i : Nat // i ≤ g.syms.length ∧ ∀ y ∈ g.syms.take i, decide (y.name = s) = false }) (fun i => [(0, T s), (1, .rop 2 (Gr g)), (2, .ptr rb 1 0 0), (8, SyS g.syms), (9, I g.syms.length), (10, I i.1)]) (fun _ => H) (fun i => g.syms.length - i.1) ⟨0, by simp⟩ (by simp [E2]) rfl ?_
  rintro ⟨i, hi, hn⟩
  rcases Nat.lt_or_ge i g.syms.length with hlt | hge
  · by_cases he : g.syms[i].name = s
    · rw [ixOf_hit hlt (by simp [he]) hn, if_neg (by omega), Int.toNat_natCast, getD_lt (by omega)] at hho
      rw [hho]
      ((try with_reducible refine mkQI ?_); (repeat ((first | (with_reducible refine mkQU ?_) | simp only [brGen]); try simp (maxSteps := 4000000) +contextual only [↓ S2, S2, vIte, ↓reduceIte, Int.reduceNe, Nat.reduceEqDiff, reduceCtorEq, Nat.reduceLeDiff, Nat.reduceAdd, Nat.reduceLT, hget_c, hset_c, hdel_c, neN, neA_cons, neA_nil, he, h1, h2, List.length_map, ho, hn])); (try simp +contextual (disch := omega) only [Z2, he, h1, h2, List.length_map, ho, hn]); (repeat' (first | (with_reducible intro h) | (with_reducible refine And.intro (by omega) ?_) | (with_reducible refine exP (by omega) ?_) | (with_reducible apply And.intro))))
      all_goals try (exfalso; omega)
    · ((try with_reducible refine mkQI ?_); (repeat ((first | (with_reducible refine mkQU ?_) | simp only [brGen]); try simp (maxSteps := 4000000) +contextual only [↓ S2, S2, vIte, ↓reduceIte, Int.reduceNe, Nat.reduceEqDiff, reduceCtorEq, Nat.reduceLeDiff, Nat.reduceAdd, Nat.reduceLT, hget_c, hset_c, hdel_c, neN, neA_cons, neA_nil, he])); (try simp +contextual (disch := omega) only [Z2, he]); (repeat' (first | (with_reducible intro h) | (with_reducible refine And.intro (by omega) ?_) | (with_reducible refine exP (by omega) ?_) | (with_reducible apply And.intro))))
      all_goals try (exfalso; omega)
      exact nx ⟨i + 1, by omega, take_step hlt (by simp [he]) hn⟩ (by simp <;> omega) (by simp [E2]) rfl
  · obtain rfl : i = g.syms.length := by omega
    rw [List.take_length] at hn
    rw [ixOf_none hn, if_pos (by omega)] at hho
    rw [hho]
    ((try with_reducible refine mkQI ?_); (repeat ((first | (with_reducible refine mkQU ?_) | simp only [brGen]); try simp (maxSteps := 4000000) +contextual only [↓ S2, S2, vIte, ↓reduceIte, Int.reduceNe, Nat.reduceEqDiff, reduceCtorEq, Nat.reduceLeDiff, Nat.reduceAdd, Nat.reduceLT, hget_c, hset_c, hdel_c, neN, neA_cons, neA_nil, ])); (try simp +contextual (disch := omega) only [Z2, ]); (repeat' (first | (with_reducible intro h) | (with_reducible refine And.intro (by omega) ?_) | (with_reducible refine exP (by omega) ?_) | (with_reducible apply And.intro))))
    all_goals try (exfalso; omega)
set_option maxHeartbeats 4000000 in
theorem w12 (g : Gram) (hg : smGr g) (h4 : g.syms.length ≤ 4) : Pure Try.prog 12 [Gr g] (· = IS (hgts g)) := by
  refine Pure.bor ?_
  have hl2 := hg.2.1
  refine gstart mxd i12 rfl (by simp) ?_; simp (maxSteps := 2000000) only [↓ S2, S2, vIte, ↓reduceIte, Int.reduceNe, Nat.reduceEqDiff, reduceCtorEq, Nat.reduceLeDiff, Nat.reduceAdd, Nat.reduceLT]
  ((try with_reducible refine mkQI ?_); (repeat ((first | (with_reducible refine mkQU ?_) | simp only [brGen]); try simp (maxSteps := 4000000) +contextual only [↓ S2, S2, vIte, ↓reduceIte, Int.reduceNe, Nat.reduceEqDiff, reduceCtorEq, Nat.reduceLeDiff, Nat.reduceAdd, Nat.reduceLT, hget_c, hset_c, hdel_c, neN, neA_cons, neA_nil, ])); (try simp +contextual (disch := omega) only [Z2, ]); (repeat' (first | (with_reducible intro h) | (with_reducible refine And.intro (by omega) ?_) | (with_reducible refine exP (by omega) ?_) | (with_reducible apply And.intro))))
  all_goals try (exfalso; omega)
  rename_i q0 _ rb
  refine ploop mxd (ι := { x : Nat × Nat // x.2 ≤ g.syms.length }) (fun x => [(1, .rop 2 (Gr g)), (3, .ptr rb 1 0 0), (4, .clo 19 [.rop 2 (Gr g), .ptr rb 1 0 0]), (5, I ((x.1.2 : Int) + 1))]) (fun x => [(rb, 1, [.own x.1.1 1 0 g.syms.length]), (x.1.1, 1, (hIt g x.1.2).map I)]) (fun x => g.syms.length - x.1.2) ⟨(q0, 0), by simp⟩ (by simp [E2]) ?_ ?_
  · simp [subH, hget_c, names, hIt, *]
  rintro ⟨⟨q, k⟩, hk⟩ hn0
  dsimp only at hk hn0 ⊢
  (replace hn0 := hn0; simp only [neH_cons, neH_nil, neA_cons, neA_nil, and_true, true_and] at hn0)
  have hol := hIt_len g k
  rcases Nat.lt_or_ge k g.syms.length with hlt | hge
  · ((try with_reducible refine mkQI ?_); (repeat ((first | (with_reducible refine mkQU ?_) | simp only [brGen]); try simp (maxSteps := 4000000) +contextual only [↓ S2, S2, vIte, ↓reduceIte, Int.reduceNe, Nat.reduceEqDiff, reduceCtorEq, Nat.reduceLeDiff, Nat.reduceAdd, Nat.reduceLT, hget_c, hset_c, hdel_c, neN, neA_cons, neA_nil, hn0, List.length_map, hol])); (try simp +contextual (disch := omega) only [Z2, hn0, List.length_map, hol]); (repeat' (first | (with_reducible intro h) | (with_reducible refine And.intro (by omega) ?_) | (with_reducible refine exP (by omega) ?_) | (with_reducible apply And.intro))))
    all_goals try (exfalso; omega)
    rename_i _ rn
    rw [soT_I hol]
    ((try with_reducible refine mkQI ?_); (repeat ((first | (with_reducible refine mkQU ?_) | simp only [brGen]); try simp (maxSteps := 4000000) +contextual only [↓ S2, S2, vIte, ↓reduceIte, Int.reduceNe, Nat.reduceEqDiff, reduceCtorEq, Nat.reduceLeDiff, Nat.reduceAdd, Nat.reduceLT, hget_c, hset_c, hdel_c, neN, neA_cons, neA_nil, List.length_map, List.length_replicate, hol])); (try simp +contextual (disch := omega) only [Z2, List.length_map, List.length_replicate, hol]); (repeat' (first | (with_reducible intro h) | (with_reducible refine And.intro (by omega) ?_) | (with_reducible refine exP (by omega) ?_) | (with_reducible apply And.intro))))
    all_goals try (exfalso; omega)
    rw [Nat.min_self]
    refine ploop mxd (ι := { x : Nat × List Int // x.1 ≤ g.syms.length ∧ nxt g k x.1 x.2 }) (fun x => [(1, .rop 2 (Gr g)), (3, .ptr rb 1 0 0), (4, .clo 19 [.rop 2 (Gr g), .ptr rb 1 0 0]), (5, I ((k : Int) + 1)), (6, .own rn 1 0 g.syms.length), (33, SyS g.syms), (34, I g.syms.length), (35, I x.1.1)]) (fun x => [(rn, 1, x.1.2.map I), (rb, 1, [.own q 1 0 g.syms.length]), (q, 1, (hIt g k).map I)]) (fun x => g.syms.length - x.1.1) ⟨(0, hIt g k), by omega, nxt_0 g k⟩ (by simp [E2]) ?_ ?_
    · rw [show List.take g.syms.length (List.map I (hIt g k)) = List.map I (hIt g k) from List.take_of_length_le (by simp [hol]), List.drop_of_length_le (by simp), List.append_nil]
      exact (by repeat' (first | exact trivial | (refine And.intro (by simp only [hget_c, *, if_true, if_false]; try rfl) (And.intro (by simp [names_cons, names_nil, *]) ?_))))
    rintro ⟨⟨i, Y⟩, hi, hY⟩ hn2
    dsimp only at hi hY hn2 ⊢
    (replace hn2 := hn2; simp only [neH_cons, neH_nil, neA_cons, neA_nil, and_true, true_and] at hn2)
    have hYl := hY.1
    rcases Nat.lt_or_ge i g.syms.length with hlt2 | hge2
    · have hg1 : (hIt g k).getD i 0 = (hIt g k)[i] := getD_lt (by omega)
      have hg2 : g.syms.getD i symZ = g.syms[i] := getD_lt hlt2
      have hnx : hNext g ((k : Int) + 1) (hIt g k) i = if 0 < (hIt g k)[i] then (hIt g k)[i] else if rchS g (hIt g k) g.syms[i].name = true then (k : Int) + 1 else (hIt g k)[i] := by simp only [hNext, hg1, hg2]
      have hnn := hIt_nn g k _ (List.getElem_mem (show i < (hIt g k).length by omega))
      by_cases hz : 0 < (hIt g k)[i]
      · rw [if_pos (by omega)] at hnx
        ((try with_reducible refine mkQI ?_); (repeat ((first | (with_reducible refine mkQU ?_) | simp only [brGen]); try simp (maxSteps := 4000000) +contextual only [↓ S2, S2, vIte, ↓reduceIte, Int.reduceNe, Nat.reduceEqDiff, reduceCtorEq, Nat.reduceLeDiff, Nat.reduceAdd, Nat.reduceLT, hget_c, hset_c, hdel_c, neN, neA_cons, neA_nil, hn2, hz, List.length_map, hol, hYl, gt_iff_lt, decide_true])); (try simp +contextual (disch := omega) only [Z2, hn2, hz, List.length_map, hol, hYl, gt_iff_lt, decide_true]); (repeat' (first | (with_reducible intro h) | (with_reducible refine And.intro (by omega) ?_) | (with_reducible refine exP (by omega) ?_) | (with_reducible apply And.intro))))
        all_goals try (exfalso; omega)
        exact px ⟨(i + 1, Y), by omega, nxt_keep hY hlt2 (by rw [hnx, hg1])⟩ (by simp <;> omega) (by simp [E2]) (by repeat' (first | exact trivial | (refine And.intro (by simp only [hget_c, *, if_true, if_false]; try rfl) (And.intro (by simp [names_cons, names_nil, *]) ?_))))
      · rw [if_neg hz] at hnx
        have hz0 : (hIt g k)[i] = 0 := by omega
        ((try with_reducible refine mkQI ?_); (repeat ((first | (with_reducible refine mkQU ?_) | simp only [brGen]); try simp (maxSteps := 4000000) +contextual only [↓ S2, S2, vIte, ↓reduceIte, Int.reduceNe, Nat.reduceEqDiff, reduceCtorEq, Nat.reduceLeDiff, Nat.reduceAdd, Nat.reduceLT, hget_c, hset_c, hdel_c, neN, neA_cons, neA_nil, hn2, hz, List.length_map, hol, hYl, gt_iff_lt, decide_false])); (try simp +contextual (disch := omega) only [Z2, hn2, hz, List.length_map, hol, hYl, gt_iff_lt, decide_false]); (repeat' (first | (with_reducible intro h) | (with_reducible refine And.intro (by omega) ?_) | (with_reducible refine exP (by omega) ?_) | (with_reducible apply And.intro))))
        all_goals try (exfalso; omega)
        obtain ⟨Z, hZ⟩ : ∃ Z : Nat → List Int, ∀ j, Z j = if ((g.rules.take j).any (rchR g (hIt g k) g.syms[i].name)) = true then Y.set i ((k : Int) + 1) else Y := ⟨_, fun _ => rfl⟩
        have hZl : ∀ j, (Z j).length = g.syms.length := fun j => by rw [hZ]; split <;> simp [hYl]
        have hZ0 : Z 0 = Y := by rw [hZ]; simp
        have hZs1 : ∀ j (hj : j < g.rules.length), rchR g (hIt g k) g.syms[i].name g.rules[j] = false → Z (j + 1) = Z j := fun j hj hb => by
          rw [hZ, hZ, List.take_add_one, List.getElem?_eq_getElem hj, Option.toList_some, List.any_append]; simp [hb]
        have hZs2 : ∀ j (hj : j < g.rules.length), rchR g (hIt g k) g.syms[i].name g.rules[j] = true → Z (j + 1) = (Z j).set i ((k : Int) + 1) := fun j hj hb => by
          rw [hZ, hZ, List.take_add_one, List.getElem?_eq_getElem hj, Option.toList_some, List.any_append]
          simp only [List.any_cons, hb, Bool.true_or, Bool.or_true, if_true]
          split
          · rw [List.set_set]
          · rfl
        have hZe : nxt g k (i + 1) (Z g.rules.length) := by
          rw [hZ, List.take_length]
          have e : rchS g (hIt g k) g.syms[i].name = g.rules.any (rchR g (hIt g k) g.syms[i].name) := rfl
          rw [← e]
          split
          · rename_i hh
            rw [if_pos hh] at hnx
            exact nxt_set hY hlt2 hnx
          · rename_i hh
            rw [if_neg hh] at hnx
            exact nxt_keep hY hlt2 (by rw [hnx, hg1])
        clear hZ
        refine ploop mxd (ι := { j : Nat // j ≤ g.rules.length }) (fun j => [(1, .rop 2 (Gr g)), (3, .ptr rb 1 0 0), (4, .clo 19 [.rop 2 (Gr g), .ptr rb 1 0 0]), (5, I ((k : Int) + 1)), (6, .own rn 1 0 g.syms.length), (33, SyS g.syms), (34, I g.syms.length), (35, I i), (7, I i), (8, .rop 2 (Sy g.syms[i])), (46, RuS g.rules), (47, I g.rules.length), (48, I j.1)]) (fun j => [(rn, 1, (Z j.1).map I), (rb, 1, [.own q 1 0 g.syms.length]), (q, 1, (hIt g k).map I)]) (fun j => g.rules.length - j.1) ⟨0, by simp⟩ (by simp [E2]) (by rw [hZ0]; exact (by repeat' (first | exact trivial | (refine And.intro (by simp only [hget_c, *, if_true, if_false]; try rfl) (And.intro (by simp [names_cons, names_nil, *]) ?_))))) ?_
        rintro ⟨j, hj⟩ hn3
        dsimp only at hj hn3 ⊢
        (replace hn3 := hn3; simp only [neH_cons, neH_nil, neA_cons, neA_nil, and_true, true_and] at hn3)
        rcases Nat.lt_or_ge j g.rules.length with hlt3 | hge3
        · have hr := hg.2.2.2 _ (List.getElem_mem hlt3)
          have hrl := hr.1
          ((try with_reducible refine mkQI ?_); (repeat ((first | (with_reducible refine mkQU ?_) | simp only [brGen]); try simp (maxSteps := 4000000) +contextual only [↓ S2, S2, vIte, ↓reduceIte, Int.reduceNe, Nat.reduceEqDiff, reduceCtorEq, Nat.reduceLeDiff, Nat.reduceAdd, Nat.reduceLT, hget_c, hset_c, hdel_c, neN, neA_cons, neA_nil, hn3])); (try simp +contextual (disch := omega) only [Z2, hn3]); (repeat' (first | (with_reducible intro h) | (with_reducible refine And.intro (by omega) ?_) | (with_reducible refine exP (by omega) ?_) | (with_reducible apply And.intro))))
          all_goals try (exfalso; omega)
          have hz1 : decide (g.rules[j].left = g.syms[i].name) = rchP g (hIt g k) g.syms[i].name g.rules[j] 0 := by simp [rchP]
          refine wloop mxd (ι := { m : Nat // m ≤ g.rules[j].right.length }) (fun m => [(1, .rop 2 (Gr g)), (3, .ptr rb 1 0 0), (4, .clo 19 [.rop 2 (Gr g), .ptr rb 1 0 0]), (5, I ((k : Int) + 1)), (6, .own rn 1 0 g.syms.length), (33, SyS g.syms), (34, I g.syms.length), (35, I i), (7, I i), (8, .rop 2 (Sy g.syms[i])), (46, RuS g.rules), (47, I g.rules.length), (48, I j), (11, B (rchP g (hIt g k) g.syms[i].name g.rules[j] m.1)), (58, TS g.rules[j].right), (59, I g.rules[j].right.length), (60, I m.1)]) (fun _ => [(rn, 1, (Z j).map I), (rb, 1, [.own q 1 0 g.syms.length]), (q, 1, (hIt g k).map I)]) (fun m => g.rules[j].right.length - m.1) ⟨0, by simp⟩ (by simp [E2, hz1]) rfl ?_
          rintro ⟨m, hm⟩
          rcases Nat.lt_or_ge m g.rules[j].right.length with hlt4 | hge4
          · have hst := rchP_step (g := g) (out := hIt g k) (s := g.syms[i].name) hlt4
            rcases (Bool.eq_false_or_eq_true (rchP g (hIt g k) g.syms[i].name g.rules[j] m)).symm with hv | hv
            · rw [hv, Bool.false_and] at hst
              ((try with_reducible refine mkQI ?_); (repeat ((first | (with_reducible refine mkQU ?_) | simp only [brGen]); try simp (maxSteps := 4000000) +contextual only [↓ S2, S2, vIte, ↓reduceIte, Int.reduceNe, Nat.reduceEqDiff, reduceCtorEq, Nat.reduceLeDiff, Nat.reduceAdd, Nat.reduceLT, hget_c, hset_c, hdel_c, neN, neA_cons, neA_nil, hn3, hv])); (try simp +contextual (disch := omega) only [Z2, hn3, hv]); (repeat' (first | (with_reducible intro h) | (with_reducible refine And.intro (by omega) ?_) | (with_reducible refine exP (by omega) ?_) | (with_reducible apply And.intro))))
              all_goals try (exfalso; omega)
              exact nx ⟨m + 1, by omega⟩ (by simp <;> omega) (by simp [E2, hst]) rfl
            · rw [hv, Bool.true_and] at hst
              ((try with_reducible refine mkQI ?_); (repeat ((first | (with_reducible refine mkQU ?_) | simp only [brGen]); try simp (maxSteps := 4000000) +contextual only [↓ S2, S2, vIte, ↓reduceIte, Int.reduceNe, Nat.reduceEqDiff, reduceCtorEq, Nat.reduceLeDiff, Nat.reduceAdd, Nat.reduceLT, hget_c, hset_c, hdel_c, neN, neA_cons, neA_nil, hn3, hv])); (try simp +contextual (disch := omega) only [Z2, hn3, hv]); (repeat' (first | (with_reducible intro h) | (with_reducible refine And.intro (by omega) ?_) | (with_reducible refine exP (by omega) ?_) | (with_reducible apply And.intro))))
              all_goals try (exfalso; omega)
              refine callS.of (o19 g g.rules[j].right[m] (hIt g k) rb q _ _ hg hol rfl (by simp [hget_c, hn3]) (by simp [hget_c, hn3])) ?_
              rintro v H' ⟨rfl, rfl⟩ -
              ((try with_reducible refine mkQI ?_); (repeat ((first | (with_reducible refine mkQU ?_) | simp only [brGen]); try simp (maxSteps := 4000000) +contextual only [↓ S2, S2, vIte, ↓reduceIte, Int.reduceNe, Nat.reduceEqDiff, reduceCtorEq, Nat.reduceLeDiff, Nat.reduceAdd, Nat.reduceLT, hget_c, hset_c, hdel_c, neN, neA_cons, neA_nil, hn3, gt_iff_lt])); (try simp +contextual (disch := omega) only [Z2, hn3, gt_iff_lt]); (repeat' (first | (with_reducible intro h) | (with_reducible refine And.intro (by omega) ?_) | (with_reducible refine exP (by omega) ?_) | (with_reducible apply And.intro))))
              exact nx ⟨m + 1, by omega⟩ (by simp <;> omega) (by simp [E2, hst]) rfl
          · obtain rfl : m = g.rules[j].right.length := by omega
            rw [rchP_end]
            have hzl := hZl j
            rcases (Bool.eq_false_or_eq_true (rchR g (hIt g k) g.syms[i].name g.rules[j])).symm with hv | hv
            · rw [hv]
              ((try with_reducible refine mkQI ?_); (repeat ((first | (with_reducible refine mkQU ?_) | simp only [brGen]); try simp (maxSteps := 4000000) +contextual only [↓ S2, S2, vIte, ↓reduceIte, Int.reduceNe, Nat.reduceEqDiff, reduceCtorEq, Nat.reduceLeDiff, Nat.reduceAdd, Nat.reduceLT, hget_c, hset_c, hdel_c, neN, neA_cons, neA_nil, hn3])); (try simp +contextual (disch := omega) only [Z2, hn3]); (repeat' (first | (with_reducible intro h) | (with_reducible refine And.intro (by omega) ?_) | (with_reducible refine exP (by omega) ?_) | (with_reducible apply And.intro))))
              all_goals try (exfalso; omega)
              refine px ⟨j + 1, by omega⟩ (by simp <;> omega) (by simp [E2]) ?_
              show subH _ [(rn, 1, (Z (j + 1)).map I), _, _]
              rw [hZs1 j hlt3 hv]
              exact (by repeat' (first | exact trivial | (refine And.intro (by simp only [hget_c, *, if_true, if_false]; try rfl) (And.intro (by simp [names_cons, names_nil, *]) ?_))))
            · rw [hv]
              ((try with_reducible refine mkQI ?_); (repeat ((first | (with_reducible refine mkQU ?_) | simp only [brGen]); try simp (maxSteps := 4000000) +contextual only [↓ S2, S2, vIte, ↓reduceIte, Int.reduceNe, Nat.reduceEqDiff, reduceCtorEq, Nat.reduceLeDiff, Nat.reduceAdd, Nat.reduceLT, hget_c, hset_c, hdel_c, neN, neA_cons, neA_nil, hn3, List.length_map, hzl])); (try simp +contextual (disch := omega) only [Z2, hn3, List.length_map, hzl]); (repeat' (first | (with_reducible intro h) | (with_reducible refine And.intro (by omega) ?_) | (with_reducible refine exP (by omega) ?_) | (with_reducible apply And.intro))))
              all_goals try (exfalso; omega)
              refine px ⟨j + 1, by omega⟩ (by simp <;> omega) (by simp [E2]) ?_
              show subH _ [(rn, 1, (Z (j + 1)).map I), _, _]
              rw [hZs2 j hlt3 hv, List.map_set]
              exact (by repeat' (first | exact trivial | (refine And.intro (by simp only [hget_c, *, if_true, if_false]; try rfl) (And.intro (by simp [names_cons, names_nil, *]) ?_))))
        · obtain rfl : j = g.rules.length := by omega
          ((try with_reducible refine mkQI ?_); (repeat ((first | (with_reducible refine mkQU ?_) | simp only [brGen]); try simp (maxSteps := 4000000) +contextual only [↓ S2, S2, vIte, ↓reduceIte, Int.reduceNe, Nat.reduceEqDiff, reduceCtorEq, Nat.reduceLeDiff, Nat.reduceAdd, Nat.reduceLT, hget_c, hset_c, hdel_c, neN, neA_cons, neA_nil, hn3])); (try simp +contextual (disch := omega) only [Z2, hn3]); (repeat' (first | (with_reducible intro h) | (with_reducible refine And.intro (by omega) ?_) | (with_reducible refine exP (by omega) ?_) | (with_reducible apply And.intro))))
          all_goals try (exfalso; omega)
          exact px ⟨(i + 1, Z g.rules.length), by omega, hZe⟩ (by simp <;> omega) (by simp [E2]) (by repeat' (first | exact trivial | (refine And.intro (by simp only [hget_c, *, if_true, if_false]; try rfl) (And.intro (by simp [names_cons, names_nil, *]) ?_))))
    · obtain rfl : i = g.syms.length := by omega
      have hYe := nxt_n hY
      subst hYe
      ((try with_reducible refine mkQI ?_); (repeat ((first | (with_reducible refine mkQU ?_) | simp only [brGen]); try simp (maxSteps := 4000000) +contextual only [↓ S2, S2, vIte, ↓reduceIte, Int.reduceNe, Nat.reduceEqDiff, reduceCtorEq, Nat.reduceLeDiff, Nat.reduceAdd, Nat.reduceLT, hget_c, hset_c, hdel_c, neN, neA_cons, neA_nil, hn2])); (try simp +contextual (disch := omega) only [Z2, hn2]); (repeat' (first | (with_reducible intro h) | (with_reducible refine And.intro (by omega) ?_) | (with_reducible refine exP (by omega) ?_) | (with_reducible apply And.intro))))
      all_goals try (exfalso; omega)
      exact px ⟨(rn, k + 1), by omega⟩ (by simp <;> omega) (by simp [E2]) (by repeat' (first | exact trivial | (refine And.intro (by simp only [hget_c, *, if_true, if_false]; try rfl) (And.intro (by simp [names_cons, names_nil, *]) ?_))))
  · obtain rfl : k = g.syms.length := by omega
    ((try with_reducible refine mkQI ?_); (repeat ((first | (with_reducible refine mkQU ?_) | simp only [brGen]); try simp (maxSteps := 4000000) +contextual only [↓ S2, S2, vIte, ↓reduceIte, Int.reduceNe, Nat.reduceEqDiff, reduceCtorEq, Nat.reduceLeDiff, Nat.reduceAdd, Nat.reduceLT, hget_c, hset_c, hdel_c, neN, neA_cons, neA_nil, hn0])); (try simp +contextual (disch := omega) only [Z2, hn0]); (repeat' (first | (with_reducible intro h) | (with_reducible refine And.intro (by omega) ?_) | (with_reducible refine exP (by omega) ?_) | (with_reducible apply And.intro))))
    all_goals try (exfalso; omega)
    exact bor_IS (by simp [hget_c, hn0]; rfl) (hgts_len g)
end Go.Proofs.Ytkmedfejmndmjaa

namespace Go.Proofs.Ytkmedfejmndmjaa
open Go.Gh
set_option maxRecDepth 20000
set_option linter.unusedSimpArgs false
set_option linter.unusedVariables false
theorem w4 (bs : List UInt8) : Pure Try.prog 4 [Bs bs] (· = B (decide ((1048576 : Int) < bs.length))) := by
  refine gstart mxd i4 rfl (by simp) ?_; simp (maxSteps := 2000000) only [↓ S2, S2, vIte, ↓reduceIte, Int.reduceNe, Nat.reduceEqDiff, reduceCtorEq, Nat.reduceLeDiff, Nat.reduceAdd, Nat.reduceLT]
  ((try with_reducible refine mkQI ?_); (repeat ((first | (with_reducible refine mkQU ?_) | simp only [brGen]); try simp (maxSteps := 4000000) +contextual only [↓ S2, S2, vIte, ↓reduceIte, Int.reduceNe, Nat.reduceEqDiff, reduceCtorEq, Nat.reduceLeDiff, Nat.reduceAdd, Nat.reduceLT, hget_c, hset_c, hdel_c, neN, neA_cons, neA_nil, List.length_map])); (try simp +contextual (disch := omega) only [Z2, List.length_map]); (repeat' (first | (with_reducible intro h) | (with_reducible refine And.intro (by omega) ?_) | (with_reducible refine exP (by omega) ?_) | (with_reducible apply And.intro))))
end Go.Proofs.Ytkmedfejmndmjaa

namespace Go.Proofs.Ytkmedfejmndmjaa
open Go.Gh
set_option maxRecDepth 20000
set_option linter.unusedSimpArgs false
set_option linter.unusedVariables false
set_option maxHeartbeats 4000000 in
theorem w9 (g : Gram) (s : ByteArray) (hg : smGr g) : Pure Try.prog 9 [Gr g, T s] (· = TS (rulO g s)) := by
  refine Pure.bor ?_
  have hg2 := hg.2.1
  refine gstart mxd i9 rfl (by simp) ?_; simp (maxSteps := 2000000) only [↓ S2, S2, vIte, ↓reduceIte, Int.reduceNe, Nat.reduceEqDiff, reduceCtorEq, Nat.reduceLeDiff, Nat.reduceAdd, Nat.reduceLT]
  ((try with_reducible refine mkQI ?_); (repeat ((first | (with_reducible refine mkQU ?_) | simp only [brGen]); try simp (maxSteps := 4000000) +contextual only [↓ S2, S2, vIte, ↓reduceIte, Int.reduceNe, Nat.reduceEqDiff, reduceCtorEq, Nat.reduceLeDiff, Nat.reduceAdd, Nat.reduceLT, hget_c, hset_c, hdel_c, neN, neA_cons, neA_nil, ])); (try simp +contextual (disch := omega) only [Z2, ]); (repeat' (first | (with_reducible intro h) | (with_reducible refine And.intro (by omega) ?_) | (with_reducible refine exP (by omega) ?_) | (with_reducible apply And.intro))))
  rename_i r0
  refine ploop mxd (ι := { x : Nat × Nat // x.2 ≤ g.rules.length }) (fun x => [(1, T s), (2, .rop 2 (Gr g)), (5, .own x.1.1 1 0 (rulP g s x.1.2).length), (6, I x.1.2)]) (fun x => [(x.1.1, 1, (rulP g s x.1.2).map T)]) (fun x => g.rules.length - x.1.2) ⟨(r0, 0), by simp⟩ (by simp [E2, rulP]) (by simp [subH, hget, names, rulP]) ?_
  rintro ⟨⟨q, k⟩, hk⟩ hn
  dsimp only at hk hn ⊢
  have hl := rulP_len g s k
  rcases Nat.lt_or_ge k g.rules.length with hlt | hge
  · have e := rulP_s (s := s) hlt
    by_cases hs : g.rules[k].left = s
    · have hs' := eq_true hs
      rw [if_pos hs] at e
      ((try with_reducible refine mkQI ?_); (repeat ((first | (with_reducible refine mkQU ?_) | simp only [brGen]); try simp (maxSteps := 4000000) +contextual only [↓ S2, S2, vIte, ↓reduceIte, Int.reduceNe, Nat.reduceEqDiff, reduceCtorEq, Nat.reduceLeDiff, Nat.reduceAdd, Nat.reduceLT, hget_c, hset_c, hdel_c, neN, neA_cons, neA_nil, hs', decide_true, List.length_append, List.length_singleton, List.length_map, List.length_take, maxLv])); (try simp +contextual (disch := omega) only [Z2, hs', decide_true, List.length_append, List.length_singleton, List.length_map, List.length_take, maxLv]); (repeat' (first | (with_reducible intro h) | (with_reducible refine And.intro (by omega) ?_) | (with_reducible refine exP (by omega) ?_) | (with_reducible apply And.intro))))
      all_goals try (exfalso; omega)
      rename_i q2 _ q3
      refine px ⟨(q3, k + 1), by omega⟩ (by simp <;> omega) (by simp [E2, e]) ?_
      show subH _ [(q3, 1, (rulP g s (k + 1)).map T)]
      rw [e, List.map_append, List.take_of_length_le (by simp)]
      exact (by repeat' (first | exact trivial | (refine And.intro (by simp only [hget_c, *, if_true, if_false]; try rfl) (And.intro (by simp [names_cons, names_nil, *]) ?_))))
    · have hs' := eq_false hs
      rw [if_neg hs, List.append_nil] at e
      ((try with_reducible refine mkQI ?_); (repeat ((first | (with_reducible refine mkQU ?_) | simp only [brGen]); try simp (maxSteps := 4000000) +contextual only [↓ S2, S2, vIte, ↓reduceIte, Int.reduceNe, Nat.reduceEqDiff, reduceCtorEq, Nat.reduceLeDiff, Nat.reduceAdd, Nat.reduceLT, hget_c, hset_c, hdel_c, neN, neA_cons, neA_nil, hs', decide_false])); (try simp +contextual (disch := omega) only [Z2, hs', decide_false]); (repeat' (first | (with_reducible intro h) | (with_reducible refine And.intro (by omega) ?_) | (with_reducible refine exP (by omega) ?_) | (with_reducible apply And.intro))))
      all_goals try (exfalso; omega)
      refine px ⟨(q, k + 1), by omega⟩ (by simp <;> omega) (by simp [E2, e]) ?_
      show subH _ [(q, 1, (rulP g s (k + 1)).map T)]
      rw [e]
      exact (by repeat' (first | exact trivial | (refine And.intro (by simp only [hget_c, *, if_true, if_false]; try rfl) (And.intro (by simp [names_cons, names_nil, *]) ?_))))
  · obtain rfl : k = g.rules.length := by omega
    rw [rulP_end]
    ((try with_reducible refine mkQI ?_); (repeat ((first | (with_reducible refine mkQU ?_) | simp only [brGen]); try simp (maxSteps := 4000000) +contextual only [↓ S2, S2, vIte, ↓reduceIte, Int.reduceNe, Nat.reduceEqDiff, reduceCtorEq, Nat.reduceLeDiff, Nat.reduceAdd, Nat.reduceLT, hget_c, hset_c, hdel_c, neN, neA_cons, neA_nil, ])); (try simp +contextual (disch := omega) only [Z2, ]); (repeat' (first | (with_reducible intro h) | (with_reducible refine And.intro (by omega) ?_) | (with_reducible refine exP (by omega) ?_) | (with_reducible apply And.intro))))
    all_goals try (exfalso; omega)
    exact Bor.allM (fun _ => rfl) hget_new rfl
end Go.Proofs.Ytkmedfejmndmjaa

