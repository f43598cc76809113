/- The law FnHeights returns true whatever the input, and the input reads behind the call as before. No condition. -/
import Derived.Test.YtkmedfejmndmjaaFhe1
set_option linter.unusedSimpArgs false
set_option linter.unusedVariables false
namespace Go.Proofs.Ytkmedfejmndmjaa
open Go.Gh
set_option maxRecDepth 20000
set_option linter.unusedSimpArgs false
set_option linter.unusedVariables false
theorem w13 (g : Gram) (s : ByteArray) (hg : smGr g) : Pure Try.prog 13 [Gr g, T s] (· = I (ixOf (fun y : Sym => decide (y.name = s)) g.syms)) := by
  have hl := hg.1
  refine gstart mxd i13 rfl (by simp) ?_; simp (maxSteps := 2000000) only [↓ S2, S2, vIte, ↓reduceIte, Int.reduceNe, Nat.reduceEqDiff, reduceCtorEq, Nat.reduceLeDiff, Nat.reduceAdd, Nat.reduceLT]
  ((try with_reducible refine mkQI ?_); (repeat ((first | (with_reducible refine mkQU ?_) | simp only [brGen]); try simp (maxSteps := 4000000) +contextual only [↓ S2, S2, vIte, ↓reduceIte, Int.reduceNe, Nat.reduceEqDiff, reduceCtorEq, Nat.reduceLeDiff, Nat.reduceAdd, Nat.reduceLT, hget_c, hset_c, hdel_c, neN, neA_cons, neA_nil, ])); (try simp +contextual (disch := omega) only [Z2, ]); (repeat' (first | (with_reducible intro h) | (with_reducible refine And.intro (by omega) ?_) | (with_reducible refine exP (by omega) ?_) | (with_reducible apply And.intro))))
  refine wloop mxd (ι := { i : Nat // i ≤ g.syms.length ∧ ∀ y ∈ g.syms.take i, decide (y.name = s) = false }) (fun i => [(1, T s), (2, .rop 2 (Gr g)), (5, I i.1)]) (fun _ => []) (fun i => g.syms.length - i.1) ⟨0, by simp⟩ (by simp [E2]) rfl ?_
  rintro ⟨i, hi, hn⟩
  rcases Nat.lt_or_ge i g.syms.length with hlt | hge
  · by_cases he : g.syms[i].name = s
    · rw [ixOf_hit hlt (by simp [he]) hn]
      ((try with_reducible refine mkQI ?_); (repeat ((first | (with_reducible refine mkQU ?_) | simp only [brGen]); try simp (maxSteps := 4000000) +contextual only [↓ S2, S2, vIte, ↓reduceIte, Int.reduceNe, Nat.reduceEqDiff, reduceCtorEq, Nat.reduceLeDiff, Nat.reduceAdd, Nat.reduceLT, hget_c, hset_c, hdel_c, neN, neA_cons, neA_nil, he])); (try simp +contextual (disch := omega) only [Z2, he]); (repeat' (first | (with_reducible intro h) | (with_reducible refine And.intro (by omega) ?_) | (with_reducible refine exP (by omega) ?_) | (with_reducible apply And.intro))))
      all_goals try (exfalso; omega)
    · ((try with_reducible refine mkQI ?_); (repeat ((first | (with_reducible refine mkQU ?_) | simp only [brGen]); try simp (maxSteps := 4000000) +contextual only [↓ S2, S2, vIte, ↓reduceIte, Int.reduceNe, Nat.reduceEqDiff, reduceCtorEq, Nat.reduceLeDiff, Nat.reduceAdd, Nat.reduceLT, hget_c, hset_c, hdel_c, neN, neA_cons, neA_nil, he])); (try simp +contextual (disch := omega) only [Z2, he]); (repeat' (first | (with_reducible intro h) | (with_reducible refine And.intro (by omega) ?_) | (with_reducible refine exP (by omega) ?_) | (with_reducible apply And.intro))))
      all_goals try (exfalso; omega)
      exact nx ⟨i + 1, by omega, take_step hlt (by simp [he]) hn⟩ (by simp <;> omega) (by simp [E2]) rfl
  · obtain rfl : i = g.syms.length := by omega
    rw [List.take_length] at hn
    rw [ixOf_none hn]
    ((try with_reducible refine mkQI ?_); (repeat ((first | (with_reducible refine mkQU ?_) | simp only [brGen]); try simp (maxSteps := 4000000) +contextual only [↓ S2, S2, vIte, ↓reduceIte, Int.reduceNe, Nat.reduceEqDiff, reduceCtorEq, Nat.reduceLeDiff, Nat.reduceAdd, Nat.reduceLT, hget_c, hset_c, hdel_c, neN, neA_cons, neA_nil, ])); (try simp +contextual (disch := omega) only [Z2, ]); (repeat' (first | (with_reducible intro h) | (with_reducible refine And.intro (by omega) ?_) | (with_reducible refine exP (by omega) ?_) | (with_reducible apply And.intro))))
    all_goals try (exfalso; omega)
set_option maxHeartbeats 2000000 in
theorem w20 (g : Gram) (s : ByteArray) (out : List Int) (hg : smGr g) (ho : out.length = g.syms.length) : Pure Try.prog 20 [Gr g, T s, IS out] (· = B (rchS g out s)) := by
  have hl := hg.1
  have hl2 := hg.2.1
  refine gstart mxd i20 rfl (by simp) ?_; simp (maxSteps := 2000000) only [↓ S2, S2, vIte, ↓reduceIte, Int.reduceNe, Nat.reduceEqDiff, reduceCtorEq, Nat.reduceLeDiff, Nat.reduceAdd, Nat.reduceLT]
  ((try with_reducible refine mkQI ?_); (repeat ((first | (with_reducible refine mkQU ?_) | simp only [brGen]); try simp (maxSteps := 4000000) +contextual only [↓ S2, S2, vIte, ↓reduceIte, Int.reduceNe, Nat.reduceEqDiff, reduceCtorEq, Nat.reduceLeDiff, Nat.reduceAdd, Nat.reduceLT, hget_c, hset_c, hdel_c, neN, neA_cons, neA_nil, ])); (try simp +contextual (disch := omega) only [Z2, ]); (repeat' (first | (with_reducible intro h) | (with_reducible refine And.intro (by omega) ?_) | (with_reducible refine exP (by omega) ?_) | (with_reducible apply And.intro))))
  refine wloop mxd (ι := { i : Nat // i ≤ g.rules.length ∧ ∀ r ∈ g.rules.take i, rchR g out s r = false }) (fun i => [(1, T s), (2, IS out), (3, .rop 2 (Gr g)), (7, I i.1)]) (fun _ => []) (fun i => g.rules.length - i.1) ⟨0, by simp⟩ (by simp [E2]) rfl ?_
  rintro ⟨i, hi, hn⟩
  rcases Nat.lt_or_ge i g.rules.length with hlt | hge
  · have hr := hg.2.2.2 _ (List.getElem_mem hlt)
    have hrl := hr.1
    ((try with_reducible refine mkQI ?_); (repeat ((first | (with_reducible refine mkQU ?_) | simp only [brGen]); try simp (maxSteps := 4000000) +contextual only [↓ S2, S2, vIte, ↓reduceIte, Int.reduceNe, Nat.reduceEqDiff, reduceCtorEq, Nat.reduceLeDiff, Nat.reduceAdd, Nat.reduceLT, hget_c, hset_c, hdel_c, neN, neA_cons, neA_nil, ])); (try simp +contextual (disch := omega) only [Z2, ]); (repeat' (first | (with_reducible intro h) | (with_reducible refine And.intro (by omega) ?_) | (with_reducible refine exP (by omega) ?_) | (with_reducible apply And.intro))))
    all_goals try (exfalso; omega)
    have hz : decide (g.rules[i].left = s) = rchP g out s g.rules[i] 0 := by simp [rchP]
    refine wloop mxd (ι := { k : Nat // k ≤ g.rules[i].right.length }) (fun k => [(1, T s), (2, IS out), (3, .rop 2 (Gr g)), (7, I i), (8, .rop 6 (Ru g.rules[i])), (9, B (rchP g out s g.rules[i] k.1)), (10, I k.1)]) (fun _ => []) (fun k => g.rules[i].right.length - k.1) ⟨0, by simp⟩ (by simp [E2, hz]) rfl ?_
    rintro ⟨k, hk⟩
    rcases Nat.lt_or_ge k g.rules[i].right.length with hlt2 | hge2
    · have hst := rchP_step (g := g) (out := out) (s := s) hlt2
      have hix := ixOf_cases (fun y : Sym => decide (y.name = g.rules[i].right[k])) g.syms
      have hho : hOf g out g.rules[i].right[k] = if ixOf (fun y : Sym => decide (y.name = g.rules[i].right[k])) g.syms < 0 then 0 else out.getD (ixOf (fun y : Sym => decide (y.name = g.rules[i].right[k])) g.syms).toNat 0 := rfl
      ((try with_reducible refine mkQI ?_); (repeat ((first | (with_reducible refine mkQU ?_) | simp only [brGen]); try simp (maxSteps := 4000000) +contextual only [↓ S2, S2, vIte, ↓reduceIte, Int.reduceNe, Nat.reduceEqDiff, reduceCtorEq, Nat.reduceLeDiff, Nat.reduceAdd, Nat.reduceLT, hget_c, hset_c, hdel_c, neN, neA_cons, neA_nil, ])); (try simp +contextual (disch := omega) only [Z2, ]); (repeat' (first | (with_reducible intro h) | (with_reducible refine And.intro (by omega) ?_) | (with_reducible refine exP (by omega) ?_) | (with_reducible apply And.intro))))
      all_goals try (exfalso; omega)
      refine callS.eq (w13 g g.rules[i].right[k] hg) ?_
      rcases (Bool.eq_false_or_eq_true (rchP g out s g.rules[i] k)).symm with hv | hv
      · rw [hv, Bool.false_and] at hst
        ((try with_reducible refine mkQI ?_); (repeat ((first | (with_reducible refine mkQU ?_) | simp only [brGen]); try simp (maxSteps := 4000000) +contextual only [↓ S2, S2, vIte, ↓reduceIte, Int.reduceNe, Nat.reduceEqDiff, reduceCtorEq, Nat.reduceLeDiff, Nat.reduceAdd, Nat.reduceLT, hget_c, hset_c, hdel_c, neN, neA_cons, neA_nil, hv])); (try simp +contextual (disch := omega) only [Z2, hv]); (repeat' (first | (with_reducible intro h) | (with_reducible refine And.intro (by omega) ?_) | (with_reducible refine exP (by omega) ?_) | (with_reducible apply And.intro))))
        exact nx ⟨k + 1, by omega⟩ (by simp <;> omega) (by simp [E2, hst]) rfl
      · rw [hv, Bool.true_and] at hst
        rcases hix with hx | ⟨hx, hx2⟩
        · rw [hx] at hho ⊢
          rw [if_pos (by omega)] at hho
          rw [hho] at hst
          ((try with_reducible refine mkQI ?_); (repeat ((first | (with_reducible refine mkQU ?_) | simp only [brGen]); try simp (maxSteps := 4000000) +contextual only [↓ S2, S2, vIte, ↓reduceIte, Int.reduceNe, Nat.reduceEqDiff, reduceCtorEq, Nat.reduceLeDiff, Nat.reduceAdd, Nat.reduceLT, hget_c, hset_c, hdel_c, neN, neA_cons, neA_nil, hv, Int.reduceLE, ge_iff_le, decide_false])); (try simp +contextual (disch := omega) only [Z2, hv, Int.reduceLE, ge_iff_le, decide_false]); (repeat' (first | (with_reducible intro h) | (with_reducible refine And.intro (by omega) ?_) | (with_reducible refine exP (by omega) ?_) | (with_reducible apply And.intro))))
          exact nx ⟨k + 1, by omega⟩ (by simp <;> omega) (by simp [E2, hst]) rfl
        · obtain ⟨a, ha⟩ : ∃ a : Nat, ixOf (fun y : Sym => decide (y.name = g.rules[i].right[k])) g.syms = a := ⟨(ixOf (fun y : Sym => decide (y.name = g.rules[i].right[k])) g.syms).toNat, by omega⟩
          rw [ha] at hho hx hx2 ⊢
          have ha2 : a < out.length := by omega
          rw [if_neg (by omega), Int.toNat_natCast, getD_lt ha2] at hho
          rw [hho] at hst
          have hmx : max (a : Int) 0 = a := by omega
          ((try with_reducible refine mkQI ?_); (repeat ((first | (with_reducible refine mkQU ?_) | simp only [brGen]); try simp (maxSteps := 4000000) +contextual only [↓ S2, S2, vIte, ↓reduceIte, Int.reduceNe, Nat.reduceEqDiff, reduceCtorEq, Nat.reduceLeDiff, Nat.reduceAdd, Nat.reduceLT, hget_c, hset_c, hdel_c, neN, neA_cons, neA_nil, hv, hx, ge_iff_le, decide_true])); (try simp +contextual (disch := omega) only [Z2, hv, hx, ge_iff_le, decide_true]); (repeat' (first | (with_reducible intro h) | (with_reducible refine And.intro (by omega) ?_) | (with_reducible refine exP (by omega) ?_) | (with_reducible apply And.intro))))
          refine callS.eq (w27 _ _) ?_
          rw [hmx]
          ((try with_reducible refine mkQI ?_); (repeat ((first | (with_reducible refine mkQU ?_) | simp only [brGen]); try simp (maxSteps := 4000000) +contextual only [↓ S2, S2, vIte, ↓reduceIte, Int.reduceNe, Nat.reduceEqDiff, reduceCtorEq, Nat.reduceLeDiff, Nat.reduceAdd, Nat.reduceLT, hget_c, hset_c, hdel_c, neN, neA_cons, neA_nil, hst])); (try simp +contextual (disch := omega) only [Z2, hst]); (repeat' (first | (with_reducible intro h) | (with_reducible refine And.intro (by omega) ?_) | (with_reducible refine exP (by omega) ?_) | (with_reducible apply And.intro))))
          all_goals try (exfalso; omega)
          exact nx ⟨k + 1, by omega⟩ (by simp <;> omega) (by simp [E2, hst]) rfl
    · obtain rfl : k = g.rules[i].right.length := by omega
      have he := rchP_end g out s g.rules[i]
      rcases (Bool.eq_false_or_eq_true (rchR g out s g.rules[i])).symm with hw | hw
      · rw [he, hw]
        ((try with_reducible refine mkQI ?_); (repeat ((first | (with_reducible refine mkQU ?_) | simp only [brGen]); try simp (maxSteps := 4000000) +contextual only [↓ S2, S2, vIte, ↓reduceIte, Int.reduceNe, Nat.reduceEqDiff, reduceCtorEq, Nat.reduceLeDiff, Nat.reduceAdd, Nat.reduceLT, hget_c, hset_c, hdel_c, neN, neA_cons, neA_nil, ])); (try simp +contextual (disch := omega) only [Z2, ]); (repeat' (first | (with_reducible intro h) | (with_reducible refine And.intro (by omega) ?_) | (with_reducible refine exP (by omega) ?_) | (with_reducible apply And.intro))))
        all_goals try (exfalso; omega)
        exact nx ⟨i + 1, by omega, takeP_step hlt hw hn⟩ (by simp <;> omega) (by simp [E2]) rfl
      · have : rchS g out s = true := any_yes hlt hw
        rw [he, hw, this]
        ((try with_reducible refine mkQI ?_); (repeat ((first | (with_reducible refine mkQU ?_) | simp only [brGen]); try simp (maxSteps := 4000000) +contextual only [↓ S2, S2, vIte, ↓reduceIte, Int.reduceNe, Nat.reduceEqDiff, reduceCtorEq, Nat.reduceLeDiff, Nat.reduceAdd, Nat.reduceLT, hget_c, hset_c, hdel_c, neN, neA_cons, neA_nil, ])); (try simp +contextual (disch := omega) only [Z2, ]); (repeat' (first | (with_reducible intro h) | (with_reducible refine And.intro (by omega) ?_) | (with_reducible refine exP (by omega) ?_) | (with_reducible apply And.intro))))
        all_goals try (exfalso; omega)
  · obtain rfl : i = g.rules.length := by omega
    rw [List.take_length] at hn
    have : rchS g out s = false := any_no hn
    rw [this]
    ((try with_reducible refine mkQI ?_); (repeat ((first | (with_reducible refine mkQU ?_) | simp only [brGen]); try simp (maxSteps := 4000000) +contextual only [↓ S2, S2, vIte, ↓reduceIte, Int.reduceNe, Nat.reduceEqDiff, reduceCtorEq, Nat.reduceLeDiff, Nat.reduceAdd, Nat.reduceLT, hget_c, hset_c, hdel_c, neN, neA_cons, neA_nil, ])); (try simp +contextual (disch := omega) only [Z2, ]); (repeat' (first | (with_reducible intro h) | (with_reducible refine And.intro (by omega) ?_) | (with_reducible refine exP (by omega) ?_) | (with_reducible apply And.intro))))
    all_goals try (exfalso; omega)
set_option maxHeartbeats 2000000 in
theorem w14 (g : Gram) (hg : smGr g) (h4 : g.syms.length ≤ 4) : Pure Try.prog 14 [Gr g] (· = IS (hgts g)) := by
  refine Pure.bor ?_
  refine gstart mxd i14 rfl (by simp) ?_; simp (maxSteps := 2000000) only [↓ S2, S2, vIte, ↓reduceIte, Int.reduceNe, Nat.reduceEqDiff, reduceCtorEq, Nat.reduceLeDiff, Nat.reduceAdd, Nat.reduceLT]
  ((try with_reducible refine mkQI ?_); (repeat ((first | (with_reducible refine mkQU ?_) | simp only [brGen]); try simp (maxSteps := 4000000) +contextual only [↓ S2, S2, vIte, ↓reduceIte, Int.reduceNe, Nat.reduceEqDiff, reduceCtorEq, Nat.reduceLeDiff, Nat.reduceAdd, Nat.reduceLT, hget_c, hset_c, hdel_c, neN, neA_cons, neA_nil, ])); (try simp +contextual (disch := omega) only [Z2, ]); (repeat' (first | (with_reducible intro h) | (with_reducible refine And.intro (by omega) ?_) | (with_reducible refine exP (by omega) ?_) | (with_reducible apply And.intro))))
  all_goals try (exfalso; omega)
  rename_i r0
  refine ploop mxd (ι := { x : Nat × Nat // x.2 ≤ g.syms.length }) (fun x => [(1, .rop 2 (Gr g)), (3, .own x.1.1 1 0 g.syms.length), (4, I ((x.1.2 : Int) + 1))]) (fun x => [(x.1.1, 1, (hIt g x.1.2).map I)]) (fun x => g.syms.length - x.1.2) ⟨(r0, 0), by simp⟩ (by simp [E2]) (by simp [subH, hget, names, hIt]) ?_
  rintro ⟨⟨q, k⟩, hk⟩ hn0
  dsimp only at hk hn0 ⊢
  have hol := hIt_len g k
  rcases Nat.lt_or_ge k g.syms.length with hlt | hge
  · ((try with_reducible refine mkQI ?_); (repeat ((first | (with_reducible refine mkQU ?_) | simp only [brGen]); try simp (maxSteps := 4000000) +contextual only [↓ S2, S2, vIte, ↓reduceIte, Int.reduceNe, Nat.reduceEqDiff, reduceCtorEq, Nat.reduceLeDiff, Nat.reduceAdd, Nat.reduceLT, hget_c, hset_c, hdel_c, neN, neA_cons, neA_nil, List.length_map, hol])); (try simp +contextual (disch := omega) only [Z2, List.length_map, hol]); (repeat' (first | (with_reducible intro h) | (with_reducible refine And.intro (by omega) ?_) | (with_reducible refine exP (by omega) ?_) | (with_reducible apply And.intro))))
    all_goals try (exfalso; omega)
    rename_i q2 hq2 q3
    rw [soT_I hol]
    ((try with_reducible refine mkQI ?_); (repeat ((first | (with_reducible refine mkQU ?_) | simp only [brGen]); try simp (maxSteps := 4000000) +contextual only [↓ S2, S2, vIte, ↓reduceIte, Int.reduceNe, Nat.reduceEqDiff, reduceCtorEq, Nat.reduceLeDiff, Nat.reduceAdd, Nat.reduceLT, hget_c, hset_c, hdel_c, neN, neA_cons, neA_nil, List.length_map, List.length_append, List.length_nil, hol, maxLv])); (try simp +contextual (disch := omega) only [Z2, List.length_map, List.length_append, List.length_nil, hol, maxLv]); (repeat' (first | (with_reducible intro h) | (with_reducible refine And.intro (by omega) ?_) | (with_reducible refine exP (by omega) ?_) | (with_reducible apply And.intro))))
    all_goals try (exfalso; omega)
    rename_i r5
    refine ploop mxd (ι := { x : Nat × List Int // x.1 ≤ g.syms.length ∧ nxt g k x.1 x.2 }) (fun x => [(1, .rop 2 (Gr g)), (3, .own q 1 0 g.syms.length), (4, I ((k : Int) + 1)), (5, .own r5 1 0 g.syms.length), (6, I x.1.1)]) (fun x => [(r5, 1, x.1.2.map I), (q, 1, (hIt g k).map I)]) (fun x => g.syms.length - x.1.1) ⟨(0, hIt g k), by omega, nxt_0 g k⟩ (by simp [E2]) (by repeat' (first | exact trivial | (refine And.intro (by simp only [hget_c, *, if_true, if_false]; try rfl) (And.intro (by simp [names_cons, names_nil, *]) ?_)))) ?_
    rintro ⟨⟨i, Y⟩, hi, hY⟩ hn2
    dsimp only at hi hY hn2 ⊢
    (replace hn2 := hn2; simp only [neH_cons, neH_nil, neA_cons, neA_nil, and_true, true_and] at hn2)
    have hYl := hY.1
    rcases Nat.lt_or_ge i g.syms.length with hlt2 | hge2
    · have hg1 : (hIt g k).getD i 0 = (hIt g k)[i] := getD_lt (by omega)
      have hg2 : g.syms.getD i symZ = g.syms[i] := getD_lt hlt2
      have hnx : hNext g ((k : Int) + 1) (hIt g k) i = if 0 < (hIt g k)[i] then (hIt g k)[i] else if rchS g (hIt g k) g.syms[i].name = true then (k : Int) + 1 else (hIt g k)[i] := by simp only [hNext, hg1, hg2]
      have hnn := hIt_nn g k _ (List.getElem_mem (show i < (hIt g k).length by omega))
      by_cases hz : (hIt g k)[i] = 0
      · rw [if_neg (by omega)] at hnx
        ((try with_reducible refine mkQI ?_); (repeat ((first | (with_reducible refine mkQU ?_) | simp only [brGen]); try simp (maxSteps := 4000000) +contextual only [↓ S2, S2, vIte, ↓reduceIte, Int.reduceNe, Nat.reduceEqDiff, reduceCtorEq, Nat.reduceLeDiff, Nat.reduceAdd, Nat.reduceLT, hget_c, hset_c, hdel_c, neN, neA_cons, neA_nil, hn2, hz, List.length_map, hol, hYl, decide_true])); (try simp +contextual (disch := omega) only [Z2, hn2, hz, List.length_map, hol, hYl, decide_true]); (repeat' (first | (with_reducible intro h) | (with_reducible refine And.intro (by omega) ?_) | (with_reducible refine exP (by omega) ?_) | (with_reducible apply And.intro))))
        all_goals try (exfalso; omega)
        refine callS.borA (w20 g g.syms[i].name (hIt g k) hg hol) (.cons .refl (.cons .refl (.cons (bor_IS (by simp [hget_c, hn2]) hol) .nil))) rfl ?_
        rcases (Bool.eq_false_or_eq_true (rchS g (hIt g k) g.syms[i].name)).symm with hv | hv
        · rw [hv, if_neg (by simp)] at hnx
          ((try with_reducible refine mkQI ?_); (repeat ((first | (with_reducible refine mkQU ?_) | simp only [brGen]); try simp (maxSteps := 4000000) +contextual only [↓ S2, S2, vIte, ↓reduceIte, Int.reduceNe, Nat.reduceEqDiff, reduceCtorEq, Nat.reduceLeDiff, Nat.reduceAdd, Nat.reduceLT, hget_c, hset_c, hdel_c, neN, neA_cons, neA_nil, hv])); (try simp +contextual (disch := omega) only [Z2, hv]); (repeat' (first | (with_reducible intro h) | (with_reducible refine And.intro (by omega) ?_) | (with_reducible refine exP (by omega) ?_) | (with_reducible apply And.intro))))
          exact px ⟨(i + 1, Y), by omega, nxt_keep hY hlt2 (by rw [hnx, hg1])⟩ (by simp <;> omega) (by simp [E2]) (by repeat' (first | exact trivial | (refine And.intro (by simp only [hget_c, *, if_true, if_false]; try rfl) (And.intro (by simp [names_cons, names_nil, *]) ?_))))
        · rw [hv, if_pos rfl] at hnx
          ((try with_reducible refine mkQI ?_); (repeat ((first | (with_reducible refine mkQU ?_) | simp only [brGen]); try simp (maxSteps := 4000000) +contextual only [↓ S2, S2, vIte, ↓reduceIte, Int.reduceNe, Nat.reduceEqDiff, reduceCtorEq, Nat.reduceLeDiff, Nat.reduceAdd, Nat.reduceLT, hget_c, hset_c, hdel_c, neN, neA_cons, neA_nil, hn2, hv, List.length_map, hYl])); (try simp +contextual (disch := omega) only [Z2, hn2, hv, List.length_map, hYl]); (repeat' (first | (with_reducible intro h) | (with_reducible refine And.intro (by omega) ?_) | (with_reducible refine exP (by omega) ?_) | (with_reducible apply And.intro))))
          all_goals try (exfalso; omega)
          refine px ⟨(i + 1, Y.set i ((k : Int) + 1)), by omega, nxt_set hY hlt2 hnx⟩ (by simp <;> omega) (by simp [E2]) ?_
          show subH _ [(r5, 1, (Y.set i ((k : Int) + 1)).map I), (q, 1, (hIt g k).map I)]
          rw [List.map_set]
          exact (by repeat' (first | exact trivial | (refine And.intro (by simp only [hget_c, *, if_true, if_false]; try rfl) (And.intro (by simp [names_cons, names_nil, *]) ?_))))
      · rw [if_pos (by omega)] at hnx
        ((try with_reducible refine mkQI ?_); (repeat ((first | (with_reducible refine mkQU ?_) | simp only [brGen]); try simp (maxSteps := 4000000) +contextual only [↓ S2, S2, vIte, ↓reduceIte, Int.reduceNe, Nat.reduceEqDiff, reduceCtorEq, Nat.reduceLeDiff, Nat.reduceAdd, Nat.reduceLT, hget_c, hset_c, hdel_c, neN, neA_cons, neA_nil, hn2, hz, List.length_map, hol, hYl, decide_false])); (try simp +contextual (disch := omega) only [Z2, hn2, hz, List.length_map, hol, hYl, decide_false]); (repeat' (first | (with_reducible intro h) | (with_reducible refine And.intro (by omega) ?_) | (with_reducible refine exP (by omega) ?_) | (with_reducible apply And.intro))))
        all_goals try (exfalso; omega)
        exact px ⟨(i + 1, Y), by omega, nxt_keep hY hlt2 (by rw [hnx, hg1])⟩ (by simp <;> omega) (by simp [E2]) (by repeat' (first | exact trivial | (refine And.intro (by simp only [hget_c, *, if_true, if_false]; try rfl) (And.intro (by simp [names_cons, names_nil, *]) ?_))))
    · obtain rfl : i = g.syms.length := by omega
      have hYe := nxt_n hY
      subst hYe
      ((try with_reducible refine mkQI ?_); (repeat ((first | (with_reducible refine mkQU ?_) | simp only [brGen]); try simp (maxSteps := 4000000) +contextual only [↓ S2, S2, vIte, ↓reduceIte, Int.reduceNe, Nat.reduceEqDiff, reduceCtorEq, Nat.reduceLeDiff, Nat.reduceAdd, Nat.reduceLT, hget_c, hset_c, hdel_c, neN, neA_cons, neA_nil, hn2])); (try simp +contextual (disch := omega) only [Z2, hn2]); (repeat' (first | (with_reducible intro h) | (with_reducible refine And.intro (by omega) ?_) | (with_reducible refine exP (by omega) ?_) | (with_reducible apply And.intro))))
      all_goals try (exfalso; omega)
      exact px ⟨(r5, k + 1), by omega⟩ (by simp <;> omega) (by simp [E2]) (by repeat' (first | exact trivial | (refine And.intro (by simp only [hget_c, *, if_true, if_false]; try rfl) (And.intro (by simp [names_cons, names_nil, *]) ?_))))
  · obtain rfl : k = g.syms.length := by omega
    ((try with_reducible refine mkQI ?_); (repeat ((first | (with_reducible refine mkQU ?_) | simp only [brGen]); try simp (maxSteps := 4000000) +contextual only [↓ S2, S2, vIte, ↓reduceIte, Int.reduceNe, Nat.reduceEqDiff, reduceCtorEq, Nat.reduceLeDiff, Nat.reduceAdd, Nat.reduceLT, hget_c, hset_c, hdel_c, neN, neA_cons, neA_nil, ])); (try simp +contextual (disch := omega) only [Z2, ]); (repeat' (first | (with_reducible intro h) | (with_reducible refine And.intro (by omega) ?_) | (with_reducible refine exP (by omega) ?_) | (with_reducible apply And.intro))))
    all_goals try (exfalso; omega)
    exact bor_IS hget_new (hgts_len g)
theorem w7 (g : Gram) (s : ByteArray) (hg : smGr g) (h4 : g.syms.length ≤ 4) : Pure Try.prog 7 [Gr g, T s] (· = I (minH g s)) := by
  have hl := hgts_len g
  have hix := ixOf_cases (fun y : Sym => decide (y.name = s)) g.syms
  have hm : minH g s = if ixOf (fun y : Sym => decide (y.name = s)) g.syms < 0 then 0 else (hgts g).getD (ixOf (fun y : Sym => decide (y.name = s)) g.syms).toNat 0 := rfl
  refine gstart mxd i7 rfl (by simp) ?_; simp (maxSteps := 2000000) only [↓ S2, S2, vIte, ↓reduceIte, Int.reduceNe, Nat.reduceEqDiff, reduceCtorEq, Nat.reduceLeDiff, Nat.reduceAdd, Nat.reduceLT]
  ((try with_reducible refine mkQI ?_); (repeat ((first | (with_reducible refine mkQU ?_) | simp only [brGen]); try simp (maxSteps := 4000000) +contextual only [↓ S2, S2, vIte, ↓reduceIte, Int.reduceNe, Nat.reduceEqDiff, reduceCtorEq, Nat.reduceLeDiff, Nat.reduceAdd, Nat.reduceLT, hget_c, hset_c, hdel_c, neN, neA_cons, neA_nil, ])); (try simp +contextual (disch := omega) only [Z2, ]); (repeat' (first | (with_reducible intro h) | (with_reducible refine And.intro (by omega) ?_) | (with_reducible refine exP (by omega) ?_) | (with_reducible apply And.intro))))
  refine callS.eq (w13 g s hg) ?_
  rcases hix with hx | ⟨hx, hx2⟩
  · rw [hx, if_pos (by omega)] at hm
    rw [hx, hm]
    ((try with_reducible refine mkQI ?_); (repeat ((first | (with_reducible refine mkQU ?_) | simp only [brGen]); try simp (maxSteps := 4000000) +contextual only [↓ S2, S2, vIte, ↓reduceIte, Int.reduceNe, Nat.reduceEqDiff, reduceCtorEq, Nat.reduceLeDiff, Nat.reduceAdd, Nat.reduceLT, hget_c, hset_c, hdel_c, neN, neA_cons, neA_nil, Int.reduceLT, decide_true])); (try simp +contextual (disch := omega) only [Z2, Int.reduceLT, decide_true]); (repeat' (first | (with_reducible intro h) | (with_reducible refine And.intro (by omega) ?_) | (with_reducible refine exP (by omega) ?_) | (with_reducible apply And.intro))))
  · obtain ⟨a, ha⟩ : ∃ a : Nat, ixOf (fun y : Sym => decide (y.name = s)) g.syms = a := ⟨(ixOf (fun y : Sym => decide (y.name = s)) g.syms).toNat, by omega⟩
    rw [ha] at hx hx2 hm ⊢
    rw [if_neg (by omega), Int.toNat_natCast, getD_lt (by omega)] at hm
    rw [hm]
    ((try with_reducible refine mkQI ?_); (repeat ((first | (with_reducible refine mkQU ?_) | simp only [brGen]); try simp (maxSteps := 4000000) +contextual only [↓ S2, S2, vIte, ↓reduceIte, Int.reduceNe, Nat.reduceEqDiff, reduceCtorEq, Nat.reduceLeDiff, Nat.reduceAdd, Nat.reduceLT, hget_c, hset_c, hdel_c, neN, neA_cons, neA_nil, ])); (try simp +contextual (disch := omega) only [Z2, ]); (repeat' (first | (with_reducible intro h) | (with_reducible refine And.intro (by omega) ?_) | (with_reducible refine exP (by omega) ?_) | (with_reducible apply And.intro))))
    all_goals try (exfalso; omega)
    refine callS.eq (w14 g hg h4) ?_
    ((try with_reducible refine mkQI ?_); (repeat ((first | (with_reducible refine mkQU ?_) | simp only [brGen]); try simp (maxSteps := 4000000) +contextual only [↓ S2, S2, vIte, ↓reduceIte, Int.reduceNe, Nat.reduceEqDiff, reduceCtorEq, Nat.reduceLeDiff, Nat.reduceAdd, Nat.reduceLT, hget_c, hset_c, hdel_c, neN, neA_cons, neA_nil, List.length_map, hl])); (try simp +contextual (disch := omega) only [Z2, List.length_map, hl]); (repeat' (first | (with_reducible intro h) | (with_reducible refine And.intro (by omega) ?_) | (with_reducible refine exP (by omega) ?_) | (with_reducible apply And.intro))))
    all_goals try (exfalso; omega)
end Go.Proofs.Ytkmedfejmndmjaa

