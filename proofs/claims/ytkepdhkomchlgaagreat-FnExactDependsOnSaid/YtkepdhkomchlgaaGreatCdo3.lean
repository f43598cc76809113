/- The law FnExactDependsOn returns true whatever the input, and the input reads behind the call as before. No condition. -/
import Derived.Test.YtkepdhkomchlgaaGreatCdo2
namespace Go.Proofs.YtkepdhkomchlgaaGreat
open Go.Gh
set_option maxRecDepth 20000
set_option linter.unusedSimpArgs false
set_option linter.unusedVariables false
theorem w172 (xs : List ByteArray) (left : Int) (h0 : 0 ≤ left) (h1 : left ≤ 1048576) (hx : ∀ x ∈ xs, x.size ≤ maxLen) : Pure Tryz.prog 172 [TS xs, I left] (· = I (szv left (wtS wT xs))) := by
  refine GCalls.lenA fun hl => ?_
  have hlen := hl.1.1
  simp only [List.length_map, maxL] at hlen
  refine gstart mxd i172 rfl (by simp) ?_; simp (maxSteps := 2000000) only [↓ S2, S2, vIte, ↓reduceIte, Int.reduceNe, Nat.reduceEqDiff, reduceCtorEq, Nat.reduceLeDiff, Nat.reduceAdd, Nat.reduceLT]
  ((try with_reducible refine mkQI ?_); (repeat ((first | (with_reducible refine mkQU ?_) | simp only [brGen]); try simp (maxSteps := 2000000) only [↓ S2, S2, vIte, ↓reduceIte, Int.reduceNe, Nat.reduceEqDiff, reduceCtorEq, Nat.reduceLeDiff, Nat.reduceAdd, Nat.reduceLT])); (try simp +contextual (disch := omega) only [Z2]); (repeat' (first | (with_reducible intro h) | (with_reducible refine And.intro (by omega) ?_) | (with_reducible refine exP (by omega) ?_) | (with_reducible apply And.intro))))
  · congr 2; simp only [szv, wtS]; omega
  refine wloop mxd (ι := { i : Nat // i ≤ xs.length ∧ ((xs.length + psum wT xs i : Nat) : Int) ≤ left }) (fun i => [(0, TS xs), (1, I (left - ((xs.length + psum wT xs i.1 : Nat) : Int))), (5, I i.1)]) (fun _ => []) (fun i => xs.length - i.1) ⟨0, by simp [psum_zero]; omega⟩ (by simp [E2, psum_zero]) rfl ?_
  rintro ⟨i, hi, hp⟩
  simp (maxSteps := 2000000) only [↓ S2, S2, vIte, ↓reduceIte, Int.reduceNe, Nat.reduceEqDiff, reduceCtorEq, Nat.reduceLeDiff, Nat.reduceAdd, Nat.reduceLT]
  rcases Nat.lt_or_ge i xs.length with h | h
  · have e1 := psum_succ wT xs i h
    have e2 := psum_le wT xs (i + 1)
    have e3 := hx _ (List.getElem_mem h)
    have hz := size_chars xs[i]
    simp only [maxLen, size_chars] at e3
    simp only [wT] at e1
    ((try with_reducible refine mkQI ?_); (repeat ((first | (with_reducible refine mkQU ?_) | simp only [brGen]); try simp (maxSteps := 2000000) only [↓ S2, S2, vIte, ↓reduceIte, Int.reduceNe, Nat.reduceEqDiff, reduceCtorEq, Nat.reduceLeDiff, Nat.reduceAdd, Nat.reduceLT])); (try simp +contextual (disch := omega) only [Z2]); (repeat' (first | (with_reducible intro h) | (with_reducible refine And.intro (by omega) ?_) | (with_reducible refine exP (by omega) ?_) | (with_reducible apply And.intro))))
    · congr 2; simp only [szv, wtS] at *; omega
    · exact nx ⟨i + 1, by omega, by omega⟩ (by simp; omega) (by simp [E2]; omega) rfl
    all_goals (exfalso; omega)
  · ((try with_reducible refine mkQI ?_); (repeat ((first | (with_reducible refine mkQU ?_) | simp only [brGen]); try simp (maxSteps := 2000000) only [↓ S2, S2, vIte, ↓reduceIte, Int.reduceNe, Nat.reduceEqDiff, reduceCtorEq, Nat.reduceLeDiff, Nat.reduceAdd, Nat.reduceLT])); (try simp +contextual (disch := omega) only [Z2]); (repeat' (first | (with_reducible intro h) | (with_reducible refine And.intro (by omega) ?_) | (with_reducible refine exP (by omega) ?_) | (with_reducible apply And.intro))))
    all_goals first | (exfalso; omega) | skip
    have : i = xs.length := by omega
    subst this
    rw [psum_all] at *
    congr 2; simp only [szv, wtS]; omega
theorem w180 (xs : List ByteArray) (hx : xs.length ≤ 1048576) : Pure Tryz.prog 180 [TS xs] (· = TS xs) := by
  refine Pure.bor ?_
  refine gstart mxd i180 rfl (by simp) ?_; simp (maxSteps := 2000000) only [↓ S2, S2, vIte, ↓reduceIte, Int.reduceNe, Nat.reduceEqDiff, reduceCtorEq, Nat.reduceLeDiff, Nat.reduceAdd, Nat.reduceLT]
  refine ⟨by omega, by omega, by omega, by omega, fun r hr => ?_⟩
  refine wloop mxd (ι := { i : Nat // i ≤ xs.length }) (fun i => [(0, TS xs), (3, .own r 1 0 xs.length), (4, I i.1)]) (fun i => [(r, 1, (xs.take i.1).map T ++ List.replicate (xs.length - i.1) (T noS))]) (fun i => xs.length - i.1) ⟨0, by simp⟩ (by simp [E2]) (by simp [noS]) ?_
  rintro ⟨i, hi⟩
  ((try with_reducible refine mkQI ?_); (repeat ((first | (with_reducible refine mkQU ?_) | simp only [brGen]); try simp (maxSteps := 2000000) only [↓ S2, S2, vIte, ↓reduceIte, Int.reduceNe, Nat.reduceEqDiff, reduceCtorEq, Nat.reduceLeDiff, Nat.reduceAdd, Nat.reduceLT])); (try simp +contextual (disch := omega) only [Z2]); (repeat' (first | (with_reducible intro h) | (with_reducible refine And.intro (by omega) ?_) | (with_reducible refine exP (by omega) ?_) | (with_reducible apply And.intro))))
  · refine ⟨by simp; omega, nx ⟨i + 1, by omega⟩ (by simp; omega) (by simp [E2]) ?_⟩
    rw [fill_set xs T (T noS) i h]
  · have : i = xs.length := by omega
    subst this
    exact Bor.allM (fun _ => rfl) (by simp [hget]) rfl
theorem w193 (xs ys : List ByteArray) : Pure Tryz.prog 193 [TS xs, TS ys] (· = B (decide (xs = ys))) := by
  refine GCalls.lenA fun hl => ?_
  have hl := hl.1.1
  simp only [List.length_map, maxL] at hl
  refine gstart mxd i193 rfl (by simp) ?_; simp (maxSteps := 2000000) only [↓ S2, S2, vIte, ↓reduceIte, Int.reduceNe, Nat.reduceEqDiff, reduceCtorEq, Nat.reduceLeDiff, Nat.reduceAdd, Nat.reduceLT]
  ((try with_reducible refine mkQI ?_); (repeat ((first | (with_reducible refine mkQU ?_) | simp only [brGen]); try simp (maxSteps := 2000000) only [↓ S2, S2, vIte, ↓reduceIte, Int.reduceNe, Nat.reduceEqDiff, reduceCtorEq, Nat.reduceLeDiff, Nat.reduceAdd, Nat.reduceLT])); (try simp +contextual (disch := omega) only [Z2]); (repeat' (first | (with_reducible intro h) | (with_reducible refine And.intro (by omega) ?_) | (with_reducible refine exP (by omega) ?_) | (with_reducible apply And.intro))))
  rotate_left
  · simp; rintro rfl; exact h rfl
  refine wloop mxd (ι := { i : Nat // i ≤ xs.length ∧ xs.take i = ys.take i }) (fun i => [(0, TS xs), (1, TS ys), (5, I i.1)]) (fun _ => []) (fun i => xs.length - i.1) ⟨0, by simp⟩ (by simp [E2]) rfl ?_
  rintro ⟨i, hi, hp⟩
  ((try with_reducible refine mkQI ?_); (repeat ((first | (with_reducible refine mkQU ?_) | simp only [brGen]); try simp (maxSteps := 2000000) only [↓ S2, S2, vIte, ↓reduceIte, Int.reduceNe, Nat.reduceEqDiff, reduceCtorEq, Nat.reduceLeDiff, Nat.reduceAdd, Nat.reduceLT])); (try simp +contextual (disch := omega) only [Z2]); (repeat' (first | (with_reducible intro h) | (with_reducible refine And.intro (by omega) ?_) | (with_reducible refine exP (by omega) ?_) | (with_reducible apply And.intro))))
  · exact nx ⟨i + 1, by omega, take_eq_step hp (by omega) (by omega) h⟩ (by simp; omega) (by simp [E2]) rfl
  · simp; rintro rfl; simp at h
  · have : i = xs.length := by omega
    subst this
    rw [List.take_of_length_le (by omega), List.take_of_length_le (by omega)] at hp
    simp [hp]
theorem w239 (x : Att) (left : Int) (h0 : 0 ≤ left) (h1 : left ≤ 1048576) (hx : okAt x) : Pure Tryz.prog 239 [At x, I left] (· = I (szv left (wAt x))) := by
  simp only [okAt, maxLen, size_chars] at hx
  refine gstart mxd i239 rfl (by simp) ?_; simp (maxSteps := 2000000) only [↓ S2, S2, vIte, ↓reduceIte, Int.reduceNe, Nat.reduceEqDiff, reduceCtorEq, Nat.reduceLeDiff, Nat.reduceAdd, Nat.reduceLT]
  ((try with_reducible refine mkQI ?_); (repeat ((first | (with_reducible refine mkQU ?_) | simp only [brGen]); try simp (maxSteps := 2000000) only [↓ S2, S2, vIte, ↓reduceIte, Int.reduceNe, Nat.reduceEqDiff, reduceCtorEq, Nat.reduceLeDiff, Nat.reduceAdd, Nat.reduceLT])); (try simp +contextual (disch := omega) only [Z2]); (repeat' (first | (with_reducible intro h) | (with_reducible refine And.intro (by omega) ?_) | (with_reducible refine exP (by omega) ?_) | (with_reducible apply And.intro)))) <;> (congr 2; simp only [szv, wAt]; omega)
theorem w96 (x : Sym) (left : Int) (h0 : 0 ≤ left) (h1 : left ≤ 1048576) (hx : okSy x) : Pure Tryz.prog 96 [Sy x, I left] (· = I (szv left (wSy x))) := by
  obtain ⟨ho, hx⟩ := hx
  simp only [maxLen, size_chars] at ho
  refine gstart mxd i96 rfl (by simp) ?_; simp (maxSteps := 2000000) only [↓ S2, S2, vIte, ↓reduceIte, Int.reduceNe, Nat.reduceEqDiff, reduceCtorEq, Nat.reduceLeDiff, Nat.reduceAdd, Nat.reduceLT]
  ((try with_reducible refine mkQI ?_); (repeat ((first | (with_reducible refine mkQU ?_) | simp only [brGen]); try simp (maxSteps := 2000000) only [↓ S2, S2, vIte, ↓reduceIte, Int.reduceNe, Nat.reduceEqDiff, reduceCtorEq, Nat.reduceLeDiff, Nat.reduceAdd, Nat.reduceLT])); (try simp +contextual (disch := omega) only [Z2]); (repeat' (first | (with_reducible intro h) | (with_reducible refine And.intro (by omega) ?_) | (with_reducible refine exP (by omega) ?_) | (with_reducible apply And.intro))))
  · congr 2; simp only [szv, wSy]; omega
  refine callS.eq (szS mxd wAt i171 (fun _ => rfl) (fun _ => rfl) x.atts _ (by omega) (by omega) fun a hm l c d => w239 a l c d (hx a hm)) ?_
  ((try with_reducible refine mkQI ?_); (repeat ((first | (with_reducible refine mkQU ?_) | simp only [brGen]); try simp (maxSteps := 2000000) only [↓ S2, S2, vIte, ↓reduceIte, Int.reduceNe, Nat.reduceEqDiff, reduceCtorEq, Nat.reduceLeDiff, Nat.reduceAdd, Nat.reduceLT])); (try simp +contextual (disch := omega) only [Z2]); (repeat' (first | (with_reducible intro h) | (with_reducible refine And.intro (by omega) ?_) | (with_reducible refine exP (by omega) ?_) | (with_reducible apply And.intro)))) <;> (congr 2; simp only [szv, wSy] at *; omega)
theorem w240 (x : Eqn) (left : Int) (h0 : 0 ≤ left) (h1 : left ≤ 1048576) (hx : okEq x) : Pure Tryz.prog 240 [Qn x, I left] (· = I (szv left (wEq x))) := by
  have hz := size_chars x.name
  refine gstart mxd i240 rfl (by simp) ?_; simp (maxSteps := 2000000) only [↓ S2, S2, vIte, ↓reduceIte, Int.reduceNe, Nat.reduceEqDiff, reduceCtorEq, Nat.reduceLeDiff, Nat.reduceAdd, Nat.reduceLT]
  refine callS.eq (w291 (x.pos, x.name) _ (by omega) (by omega) hx.1) ?_
  ((try with_reducible refine mkQI ?_); (repeat ((first | (with_reducible refine mkQU ?_) | simp only [brGen]); try simp (maxSteps := 2000000) only [↓ S2, S2, vIte, ↓reduceIte, Int.reduceNe, Nat.reduceEqDiff, reduceCtorEq, Nat.reduceLeDiff, Nat.reduceAdd, Nat.reduceLT, XE])); (try simp +contextual (disch := omega) only [Z2, XE]); (repeat' (first | (with_reducible intro h) | (with_reducible refine And.intro (by omega) ?_) | (with_reducible refine exP (by omega) ?_) | (with_reducible apply And.intro))))
  · congr 2; simp only [szv, wEq, wOcc] at *; omega
  have e := szv_nn h
  rw [szv_pos e]
  simp only [wOcc] at e ⊢
  refine callS.eq (w292 x.expr hx.2 _ (by omega) (by omega)) ?_
  ((try with_reducible refine mkQI ?_); (repeat ((first | (with_reducible refine mkQU ?_) | simp only [brGen]); try simp (maxSteps := 2000000) only [↓ S2, S2, vIte, ↓reduceIte, Int.reduceNe, Nat.reduceEqDiff, reduceCtorEq, Nat.reduceLeDiff, Nat.reduceAdd, Nat.reduceLT])); (try simp +contextual (disch := omega) only [Z2]); (repeat' (first | (with_reducible intro h) | (with_reducible refine And.intro (by omega) ?_) | (with_reducible refine exP (by omega) ?_) | (with_reducible apply And.intro)))) <;> (congr 2; simp only [szv, wEq, wOcc] at *; omega)
theorem w241 (x : Con) (left : Int) (h0 : 0 ≤ left) (h1 : left ≤ 1048576) (hx : okCo x) : Pure Tryz.prog 241 [Co x, I left] (· = I (szv left (wCo x))) := by
  obtain ⟨ho, hp, hg, hv⟩ := hx
  simp only [maxLen, size_chars] at ho hp
  refine gstart mxd i241 rfl (by simp) ?_; simp (maxSteps := 2000000) only [↓ S2, S2, vIte, ↓reduceIte, Int.reduceNe, Nat.reduceEqDiff, reduceCtorEq, Nat.reduceLeDiff, Nat.reduceAdd, Nat.reduceLT]
  ((try with_reducible refine mkQI ?_); (repeat ((first | (with_reducible refine mkQU ?_) | simp only [brGen]); try simp (maxSteps := 2000000) only [↓ S2, S2, vIte, ↓reduceIte, Int.reduceNe, Nat.reduceEqDiff, reduceCtorEq, Nat.reduceLeDiff, Nat.reduceAdd, Nat.reduceLT, XE])); (try simp +contextual (disch := omega) only [Z2, XE]); (repeat' (first | (with_reducible intro h) | (with_reducible refine And.intro (by omega) ?_) | (with_reducible refine exP (by omega) ?_) | (with_reducible apply And.intro))))
  · congr 2; simp only [szv, wCo]; omega
  · congr 2; simp only [szv, wCo]; omega
  refine callS.eq (w292 x.goal hg _ (by omega) (by omega)) ?_
  ((try with_reducible refine mkQI ?_); (repeat ((first | (with_reducible refine mkQU ?_) | simp only [brGen]); try simp (maxSteps := 2000000) only [↓ S2, S2, vIte, ↓reduceIte, Int.reduceNe, Nat.reduceEqDiff, reduceCtorEq, Nat.reduceLeDiff, Nat.reduceAdd, Nat.reduceLT, XE])); (try simp +contextual (disch := omega) only [Z2, XE]); (repeat' (first | (with_reducible intro h) | (with_reducible refine And.intro (by omega) ?_) | (with_reducible refine exP (by omega) ?_) | (with_reducible apply And.intro))))
  · congr 2; simp only [szv, wCo] at *; omega
  have e := szv_nn h
  rw [szv_pos e]
  refine callS.eq (w292 x.value hv _ (by omega) (by omega)) ?_
  ((try with_reducible refine mkQI ?_); (repeat ((first | (with_reducible refine mkQU ?_) | simp only [brGen]); try simp (maxSteps := 2000000) only [↓ S2, S2, vIte, ↓reduceIte, Int.reduceNe, Nat.reduceEqDiff, reduceCtorEq, Nat.reduceLeDiff, Nat.reduceAdd, Nat.reduceLT])); (try simp +contextual (disch := omega) only [Z2]); (repeat' (first | (with_reducible intro h) | (with_reducible refine And.intro (by omega) ?_) | (with_reducible refine exP (by omega) ?_) | (with_reducible apply And.intro)))) <;> (congr 2; simp only [szv, wCo] at *; omega)
theorem w97 (x : Rul) (left : Int) (h0 : 0 ≤ left) (h1 : left ≤ 1048576) (hx : okRu x) : Pure Tryz.prog 97 [Ru x, I left] (· = I (szv left (wRu x))) := by
  obtain ⟨ho, hp, hr, hq, hc⟩ := hx
  simp only [maxLen, size_chars] at ho hp
  refine gstart mxd i97 rfl (by simp) ?_; simp (maxSteps := 2000000) only [↓ S2, S2, vIte, ↓reduceIte, Int.reduceNe, Nat.reduceEqDiff, reduceCtorEq, Nat.reduceLeDiff, Nat.reduceAdd, Nat.reduceLT]
  ((try with_reducible refine mkQI ?_); (repeat ((first | (with_reducible refine mkQU ?_) | simp only [brGen]); try simp (maxSteps := 2000000) only [↓ S2, S2, vIte, ↓reduceIte, Int.reduceNe, Nat.reduceEqDiff, reduceCtorEq, Nat.reduceLeDiff, Nat.reduceAdd, Nat.reduceLT])); (try simp +contextual (disch := omega) only [Z2]); (repeat' (first | (with_reducible intro h) | (with_reducible refine And.intro (by omega) ?_) | (with_reducible refine exP (by omega) ?_) | (with_reducible apply And.intro))))
  · congr 2; simp only [szv, wRu]; omega
  · congr 2; simp only [szv, wRu]; omega
  refine callS.eq (w172 x.right _ (by omega) (by omega) hr) ?_
  ((try with_reducible refine mkQI ?_); (repeat ((first | (with_reducible refine mkQU ?_) | simp only [brGen]); try simp (maxSteps := 2000000) only [↓ S2, S2, vIte, ↓reduceIte, Int.reduceNe, Nat.reduceEqDiff, reduceCtorEq, Nat.reduceLeDiff, Nat.reduceAdd, Nat.reduceLT])); (try simp +contextual (disch := omega) only [Z2]); (repeat' (first | (with_reducible intro h) | (with_reducible refine And.intro (by omega) ?_) | (with_reducible refine exP (by omega) ?_) | (with_reducible apply And.intro))))
  · congr 2; simp only [szv, wRu] at *; omega
  have e := szv_nn h
  rw [szv_pos e]
  refine callS.eq (szS mxd wEq i173 (fun _ => rfl) (fun _ => rfl) x.eqs _ (by omega) (by omega) fun a hm l c d => w240 a l c d (hq a hm)) ?_
  ((try with_reducible refine mkQI ?_); (repeat ((first | (with_reducible refine mkQU ?_) | simp only [brGen]); try simp (maxSteps := 2000000) only [↓ S2, S2, vIte, ↓reduceIte, Int.reduceNe, Nat.reduceEqDiff, reduceCtorEq, Nat.reduceLeDiff, Nat.reduceAdd, Nat.reduceLT])); (try simp +contextual (disch := omega) only [Z2]); (repeat' (first | (with_reducible intro h) | (with_reducible refine And.intro (by omega) ?_) | (with_reducible refine exP (by omega) ?_) | (with_reducible apply And.intro))))
  · congr 2; simp only [szv, wRu] at *; omega
  have e2 := szv_nn h
  rw [szv_pos e2]
  refine callS.eq (szS mxd wCo i174 (fun _ => rfl) (fun _ => rfl) x.cons _ (by omega) (by omega) fun a hm l c d => w241 a l c d (hc a hm)) ?_
  ((try with_reducible refine mkQI ?_); (repeat ((first | (with_reducible refine mkQU ?_) | simp only [brGen]); try simp (maxSteps := 2000000) only [↓ S2, S2, vIte, ↓reduceIte, Int.reduceNe, Nat.reduceEqDiff, reduceCtorEq, Nat.reduceLeDiff, Nat.reduceAdd, Nat.reduceLT])); (try simp +contextual (disch := omega) only [Z2]); (repeat' (first | (with_reducible intro h) | (with_reducible refine And.intro (by omega) ?_) | (with_reducible refine exP (by omega) ?_) | (with_reducible apply And.intro)))) <;> (congr 2; simp only [szv, wRu] at *; omega)
theorem w11 (g : Gram) (left : Int) (h0 : 0 ≤ left) (h1 : left ≤ 1048576) (hx : okGr g) : Pure Tryz.prog 11 [Gr g, I left] (· = I (szv left (wGr g))) := by
  refine gstart mxd i11 rfl (by simp) ?_; simp (maxSteps := 2000000) only [↓ S2, S2, vIte, ↓reduceIte, Int.reduceNe, Nat.reduceEqDiff, reduceCtorEq, Nat.reduceLeDiff, Nat.reduceAdd, Nat.reduceLT]
  refine callS.eq (szS mxd wSy i47 (fun _ => rfl) (fun _ => rfl) g.syms _ (by omega) (by omega) fun a hm l c d => w96 a l c d (hx.1 a hm)) ?_
  ((try with_reducible refine mkQI ?_); (repeat ((first | (with_reducible refine mkQU ?_) | simp only [brGen]); try simp (maxSteps := 2000000) only [↓ S2, S2, vIte, ↓reduceIte, Int.reduceNe, Nat.reduceEqDiff, reduceCtorEq, Nat.reduceLeDiff, Nat.reduceAdd, Nat.reduceLT])); (try simp +contextual (disch := omega) only [Z2]); (repeat' (first | (with_reducible intro h) | (with_reducible refine And.intro (by omega) ?_) | (with_reducible refine exP (by omega) ?_) | (with_reducible apply And.intro))))
  · congr 2; simp only [szv, wGr] at *; omega
  have e := szv_nn h
  rw [szv_pos e]
  refine callS.eq (szS mxd wRu i48 (fun _ => rfl) (fun _ => rfl) g.rules _ (by omega) (by omega) fun a hm l c d => w97 a l c d (hx.2 a hm)) ?_
  ((try with_reducible refine mkQI ?_); (repeat ((first | (with_reducible refine mkQU ?_) | simp only [brGen]); try simp (maxSteps := 2000000) only [↓ S2, S2, vIte, ↓reduceIte, Int.reduceNe, Nat.reduceEqDiff, reduceCtorEq, Nat.reduceLeDiff, Nat.reduceAdd, Nat.reduceLT])); (try simp +contextual (disch := omega) only [Z2]); (repeat' (first | (with_reducible intro h) | (with_reducible refine And.intro (by omega) ?_) | (with_reducible refine exP (by omega) ?_) | (with_reducible apply And.intro)))) <;> (congr 2; simp only [szv, wGr] at *; omega)
theorem w243 (x : Att) : Pure Tryz.prog 243 [At x] (· = At x) := by
  refine gstart mxd i243 rfl (by simp) ?_; simp (maxSteps := 2000000) only [↓ S2, S2, vIte, ↓reduceIte, Int.reduceNe, Nat.reduceEqDiff, reduceCtorEq, Nat.reduceLeDiff, Nat.reduceAdd, Nat.reduceLT]
  ((try with_reducible refine mkQI ?_); (repeat ((first | (with_reducible refine mkQU ?_) | simp only [brGen]); try simp (maxSteps := 2000000) only [↓ S2, S2, vIte, ↓reduceIte, Int.reduceNe, Nat.reduceEqDiff, reduceCtorEq, Nat.reduceLeDiff, Nat.reduceAdd, Nat.reduceLT])); (try simp +contextual (disch := omega) only [Z2]); (repeat' (first | (with_reducible intro h) | (with_reducible refine And.intro (by omega) ?_) | (with_reducible refine exP (by omega) ?_) | (with_reducible apply And.intro))))
theorem w179 (xs : List Att) (hl : xs.length ≤ 1048576) : Pure Tryz.prog 179 [AtS xs] (· = AtS xs) :=
  freezeS (fun _ => rfl) fun H => toSo mxd i179 (fun _ => rfl) (fun _ => rfl) (fun _ => rfl) (fun _ => rfl) xs hl (by decide) (fun x hm => w243 x) H
theorem w104 (x : Sym) (hx : smSy x) : Pure Tryz.prog 104 [Sy x] (· = Sy x) := by
  refine gstart mxd i104 rfl (by simp) ?_; simp (maxSteps := 2000000) only [↓ S2, S2, vIte, ↓reduceIte, Int.reduceNe, Nat.reduceEqDiff, reduceCtorEq, Nat.reduceLeDiff, Nat.reduceAdd, Nat.reduceLT]
  intro r hr
  refine callS.eq (w179 _ hx) ?_
  ((try with_reducible refine mkQI ?_); (repeat ((first | (with_reducible refine mkQU ?_) | simp only [brGen]); try simp (maxSteps := 2000000) only [↓ S2, S2, vIte, ↓reduceIte, Int.reduceNe, Nat.reduceEqDiff, reduceCtorEq, Nat.reduceLeDiff, Nat.reduceAdd, Nat.reduceLT])); (try simp +contextual (disch := omega) only [Z2]); (repeat' (first | (with_reducible intro h) | (with_reducible refine And.intro (by omega) ?_) | (with_reducible refine exP (by omega) ?_) | (with_reducible apply And.intro))))
theorem w244 (x : Eqn) (hx : smEq x) : Pure Tryz.prog 244 [Qn x] (· = Qn x) := by
  refine gstart mxd i244 rfl (by simp) ?_; simp (maxSteps := 2000000) only [↓ S2, S2, vIte, ↓reduceIte, Int.reduceNe, Nat.reduceEqDiff, reduceCtorEq, Nat.reduceLeDiff, Nat.reduceAdd, Nat.reduceLT]
  intro r hr
  refine callS.eq (w293 (x.pos, x.name)) ?_
  simp (maxSteps := 2000000) only [↓ S2, S2, vIte, ↓reduceIte, Int.reduceNe, Nat.reduceEqDiff, reduceCtorEq, Nat.reduceLeDiff, Nat.reduceAdd, Nat.reduceLT, XE]
  refine callS.eq (w294 x.expr hx) ?_
  ((try with_reducible refine mkQI ?_); (repeat ((first | (with_reducible refine mkQU ?_) | simp only [brGen]); try simp (maxSteps := 2000000) only [↓ S2, S2, vIte, ↓reduceIte, Int.reduceNe, Nat.reduceEqDiff, reduceCtorEq, Nat.reduceLeDiff, Nat.reduceAdd, Nat.reduceLT, XE])); (try simp +contextual (disch := omega) only [Z2, XE]); (repeat' (first | (with_reducible intro h) | (with_reducible refine And.intro (by omega) ?_) | (with_reducible refine exP (by omega) ?_) | (with_reducible apply And.intro))))
theorem w245 (x : Con) (hx : smCo x) : Pure Tryz.prog 245 [Co x] (· = Co x) := by
  refine gstart mxd i245 rfl (by simp) ?_; simp (maxSteps := 2000000) only [↓ S2, S2, vIte, ↓reduceIte, Int.reduceNe, Nat.reduceEqDiff, reduceCtorEq, Nat.reduceLeDiff, Nat.reduceAdd, Nat.reduceLT]
  intro r hr
  try simp (maxSteps := 2000000) only [↓ S2, S2, vIte, ↓reduceIte, Int.reduceNe, Nat.reduceEqDiff, reduceCtorEq, Nat.reduceLeDiff, Nat.reduceAdd, Nat.reduceLT, XE]
  refine callS.eq (w294 x.goal hx.1) ?_
  simp (maxSteps := 2000000) only [↓ S2, S2, vIte, ↓reduceIte, Int.reduceNe, Nat.reduceEqDiff, reduceCtorEq, Nat.reduceLeDiff, Nat.reduceAdd, Nat.reduceLT, XE]
  refine callS.eq (w294 x.value hx.2) ?_
  ((try with_reducible refine mkQI ?_); (repeat ((first | (with_reducible refine mkQU ?_) | simp only [brGen]); try simp (maxSteps := 2000000) only [↓ S2, S2, vIte, ↓reduceIte, Int.reduceNe, Nat.reduceEqDiff, reduceCtorEq, Nat.reduceLeDiff, Nat.reduceAdd, Nat.reduceLT, XE])); (try simp +contextual (disch := omega) only [Z2, XE]); (repeat' (first | (with_reducible intro h) | (with_reducible refine And.intro (by omega) ?_) | (with_reducible refine exP (by omega) ?_) | (with_reducible apply And.intro))))
theorem w105 (x : Rul) (hx : smRu x) : Pure Tryz.prog 105 [Ru x] (· = Ru x) := by
  obtain ⟨h1, h2, h3, h4, h5⟩ := hx
  refine gstart mxd i105 rfl (by simp) ?_; simp (maxSteps := 2000000) only [↓ S2, S2, vIte, ↓reduceIte, Int.reduceNe, Nat.reduceEqDiff, reduceCtorEq, Nat.reduceLeDiff, Nat.reduceAdd, Nat.reduceLT]
  intro r hr
  refine callS.eq (w180 _ h1) ?_
  simp (maxSteps := 2000000) only [↓ S2, S2, vIte, ↓reduceIte, Int.reduceNe, Nat.reduceEqDiff, reduceCtorEq, Nat.reduceLeDiff, Nat.reduceAdd, Nat.reduceLT]
  refine callS.eq (freezeS (fun _ => rfl) fun H => toSo mxd i181 (fun _ => rfl) (fun _ => rfl) (fun _ => rfl) (fun _ => rfl) x.eqs h2 (by decide) (fun x hm => w244 x (h4 x hm)) H) ?_
  simp (maxSteps := 2000000) only [↓ S2, S2, vIte, ↓reduceIte, Int.reduceNe, Nat.reduceEqDiff, reduceCtorEq, Nat.reduceLeDiff, Nat.reduceAdd, Nat.reduceLT]
  refine callS.eq (freezeS (fun _ => rfl) fun H => toSo mxd i182 (fun _ => rfl) (fun _ => rfl) (fun _ => rfl) (fun _ => rfl) x.cons h3 (by decide) (fun x hm => w245 x (h5 x hm)) H) ?_
  ((try with_reducible refine mkQI ?_); (repeat ((first | (with_reducible refine mkQU ?_) | simp only [brGen]); try simp (maxSteps := 2000000) only [↓ S2, S2, vIte, ↓reduceIte, Int.reduceNe, Nat.reduceEqDiff, reduceCtorEq, Nat.reduceLeDiff, Nat.reduceAdd, Nat.reduceLT])); (try simp +contextual (disch := omega) only [Z2]); (repeat' (first | (with_reducible intro h) | (with_reducible refine And.intro (by omega) ?_) | (with_reducible refine exP (by omega) ?_) | (with_reducible apply And.intro))))
theorem w15 (g : Gram) (hx : smGr g) : Pure Tryz.prog 15 [Gr g] (· = Gr g) := by
  obtain ⟨h1, h2, h3, h4⟩ := hx
  refine gstart mxd i15 rfl (by simp) ?_; simp (maxSteps := 2000000) only [↓ S2, S2, vIte, ↓reduceIte, Int.reduceNe, Nat.reduceEqDiff, reduceCtorEq, Nat.reduceLeDiff, Nat.reduceAdd, Nat.reduceLT]
  intro r hr
  refine callS.eq (freezeS (fun _ => rfl) fun H => toSo mxd i53 (fun _ => rfl) (fun _ => rfl) (fun _ => rfl) (fun _ => rfl) g.syms h1 (by decide) (fun x hm => w104 x (h3 x hm)) H) ?_
  simp (maxSteps := 2000000) only [↓ S2, S2, vIte, ↓reduceIte, Int.reduceNe, Nat.reduceEqDiff, reduceCtorEq, Nat.reduceLeDiff, Nat.reduceAdd, Nat.reduceLT]
  refine callS.eq (freezeS (fun _ => rfl) fun H => toSo mxd i54 (fun _ => rfl) (fun _ => rfl) (fun _ => rfl) (fun _ => rfl) g.rules h2 (by decide) (fun x hm => w105 x (h4 x hm)) H) ?_
  ((try with_reducible refine mkQI ?_); (repeat ((first | (with_reducible refine mkQU ?_) | simp only [brGen]); try simp (maxSteps := 2000000) only [↓ S2, S2, vIte, ↓reduceIte, Int.reduceNe, Nat.reduceEqDiff, reduceCtorEq, Nat.reduceLeDiff, Nat.reduceAdd, Nat.reduceLT])); (try simp +contextual (disch := omega) only [Z2]); (repeat' (first | (with_reducible intro h) | (with_reducible refine And.intro (by omega) ?_) | (with_reducible refine exP (by omega) ?_) | (with_reducible apply And.intro))))
theorem w258 (x y : Att) : Pure Tryz.prog 258 [At x, At y] (· = B (decide (x = y))) := by
  refine gstart mxd i258 rfl (by simp) ?_; simp (maxSteps := 2000000) only [↓ S2, S2, vIte, ↓reduceIte, Int.reduceNe, Nat.reduceEqDiff, reduceCtorEq, Nat.reduceLeDiff, Nat.reduceAdd, Nat.reduceLT]
  ((try with_reducible refine mkQI ?_); (repeat ((first | (with_reducible refine mkQU ?_) | simp only [brGen]); try simp (maxSteps := 2000000) only [↓ S2, S2, vIte, ↓reduceIte, Int.reduceNe, Nat.reduceEqDiff, reduceCtorEq, Nat.reduceLeDiff, Nat.reduceAdd, Nat.reduceLT])); (try simp +contextual (disch := omega) only [Z2]); (repeat' (first | (with_reducible intro h) | (with_reducible refine And.intro (by omega) ?_) | (with_reducible refine exP (by omega) ?_) | (with_reducible apply And.intro)))) <;> simp_all [Att.ext_iff]
theorem w117 (x y : Sym) : Pure Tryz.prog 117 [Sy x, Sy y] (· = B (decide (x = y))) := by
  refine gstart mxd i117 rfl (by simp) ?_; simp (maxSteps := 2000000) only [↓ S2, S2, vIte, ↓reduceIte, Int.reduceNe, Nat.reduceEqDiff, reduceCtorEq, Nat.reduceLeDiff, Nat.reduceAdd, Nat.reduceLT]
  ((try with_reducible refine mkQI ?_); (repeat ((first | (with_reducible refine mkQU ?_) | simp only [brGen]); try simp (maxSteps := 2000000) only [↓ S2, S2, vIte, ↓reduceIte, Int.reduceNe, Nat.reduceEqDiff, reduceCtorEq, Nat.reduceLeDiff, Nat.reduceAdd, Nat.reduceLT])); (try simp +contextual (disch := omega) only [Z2]); (repeat' (first | (with_reducible intro h) | (with_reducible refine And.intro (by omega) ?_) | (with_reducible refine exP (by omega) ?_) | (with_reducible apply And.intro))))
  rotate_left
  · simp_all [Sym.ext_iff]
  refine callS.eq (eqS mxd i192 (fun _ => rfl) (fun _ => rfl) x.atts y.atts fun a _ b _ => w258 a b) ?_
  ((try with_reducible refine mkQI ?_); (repeat ((first | (with_reducible refine mkQU ?_) | simp only [brGen]); try simp (maxSteps := 2000000) only [↓ S2, S2, vIte, ↓reduceIte, Int.reduceNe, Nat.reduceEqDiff, reduceCtorEq, Nat.reduceLeDiff, Nat.reduceAdd, Nat.reduceLT])); (try simp +contextual (disch := omega) only [Z2]); (repeat' (first | (with_reducible intro h) | (with_reducible refine And.intro (by omega) ?_) | (with_reducible refine exP (by omega) ?_) | (with_reducible apply And.intro)))) <;> simp_all [Sym.ext_iff]
theorem w259 (x y : Eqn) : Pure Tryz.prog 259 [Qn x, Qn y] (· = B (decide (x = y))) := by
  refine gstart mxd i259 rfl (by simp) ?_; simp (maxSteps := 2000000) only [↓ S2, S2, vIte, ↓reduceIte, Int.reduceNe, Nat.reduceEqDiff, reduceCtorEq, Nat.reduceLeDiff, Nat.reduceAdd, Nat.reduceLT]
  refine callS.eq (w300 (x.pos, x.name) (y.pos, y.name)) ?_
  ((try with_reducible refine mkQI ?_); (repeat ((first | (with_reducible refine mkQU ?_) | simp only [brGen]); try simp (maxSteps := 2000000) only [↓ S2, S2, vIte, ↓reduceIte, Int.reduceNe, Nat.reduceEqDiff, reduceCtorEq, Nat.reduceLeDiff, Nat.reduceAdd, Nat.reduceLT, XE])); (try simp +contextual (disch := omega) only [Z2, XE]); (repeat' (first | (with_reducible intro h) | (with_reducible refine And.intro (by omega) ?_) | (with_reducible refine exP (by omega) ?_) | (with_reducible apply And.intro))))
  rotate_left
  · simp_all [Eqn.ext_iff, Prod.ext_iff]
  refine callS.eq (w301 x.expr y.expr) ?_
  ((try with_reducible refine mkQI ?_); (repeat ((first | (with_reducible refine mkQU ?_) | simp only [brGen]); try simp (maxSteps := 2000000) only [↓ S2, S2, vIte, ↓reduceIte, Int.reduceNe, Nat.reduceEqDiff, reduceCtorEq, Nat.reduceLeDiff, Nat.reduceAdd, Nat.reduceLT])); (try simp +contextual (disch := omega) only [Z2]); (repeat' (first | (with_reducible intro h) | (with_reducible refine And.intro (by omega) ?_) | (with_reducible refine exP (by omega) ?_) | (with_reducible apply And.intro)))) <;> simp_all [Eqn.ext_iff, Prod.ext_iff]
theorem w260 (x y : Con) : Pure Tryz.prog 260 [Co x, Co y] (· = B (decide (x = y))) := by
  refine gstart mxd i260 rfl (by simp) ?_; simp (maxSteps := 2000000) only [↓ S2, S2, vIte, ↓reduceIte, Int.reduceNe, Nat.reduceEqDiff, reduceCtorEq, Nat.reduceLeDiff, Nat.reduceAdd, Nat.reduceLT]
  ((try with_reducible refine mkQI ?_); (repeat ((first | (with_reducible refine mkQU ?_) | simp only [brGen]); try simp (maxSteps := 2000000) only [↓ S2, S2, vIte, ↓reduceIte, Int.reduceNe, Nat.reduceEqDiff, reduceCtorEq, Nat.reduceLeDiff, Nat.reduceAdd, Nat.reduceLT, XE])); (try simp +contextual (disch := omega) only [Z2, XE]); (repeat' (first | (with_reducible intro h) | (with_reducible refine And.intro (by omega) ?_) | (with_reducible refine exP (by omega) ?_) | (with_reducible apply And.intro))))
  all_goals first
    | (simp [Con.ext_iff, *]; done)
    | skip
  refine callS.eq (w301 x.goal y.goal) ?_
  ((try with_reducible refine mkQI ?_); (repeat ((first | (with_reducible refine mkQU ?_) | simp only [brGen]); try simp (maxSteps := 2000000) only [↓ S2, S2, vIte, ↓reduceIte, Int.reduceNe, Nat.reduceEqDiff, reduceCtorEq, Nat.reduceLeDiff, Nat.reduceAdd, Nat.reduceLT, XE])); (try simp +contextual (disch := omega) only [Z2, XE]); (repeat' (first | (with_reducible intro h) | (with_reducible refine And.intro (by omega) ?_) | (with_reducible refine exP (by omega) ?_) | (with_reducible apply And.intro))))
  rotate_left
  · simp_all [Con.ext_iff]
  refine callS.eq (w301 x.value y.value) ?_
  ((try with_reducible refine mkQI ?_); (repeat ((first | (with_reducible refine mkQU ?_) | simp only [brGen]); try simp (maxSteps := 2000000) only [↓ S2, S2, vIte, ↓reduceIte, Int.reduceNe, Nat.reduceEqDiff, reduceCtorEq, Nat.reduceLeDiff, Nat.reduceAdd, Nat.reduceLT])); (try simp +contextual (disch := omega) only [Z2]); (repeat' (first | (with_reducible intro h) | (with_reducible refine And.intro (by omega) ?_) | (with_reducible refine exP (by omega) ?_) | (with_reducible apply And.intro)))) <;> simp_all [Con.ext_iff]
theorem w118 (x y : Rul) : Pure Tryz.prog 118 [Ru x, Ru y] (· = B (decide (x = y))) := by
  refine gstart mxd i118 rfl (by simp) ?_; simp (maxSteps := 2000000) only [↓ S2, S2, vIte, ↓reduceIte, Int.reduceNe, Nat.reduceEqDiff, reduceCtorEq, Nat.reduceLeDiff, Nat.reduceAdd, Nat.reduceLT]
  ((try with_reducible refine mkQI ?_); (repeat ((first | (with_reducible refine mkQU ?_) | simp only [brGen]); try simp (maxSteps := 2000000) only [↓ S2, S2, vIte, ↓reduceIte, Int.reduceNe, Nat.reduceEqDiff, reduceCtorEq, Nat.reduceLeDiff, Nat.reduceAdd, Nat.reduceLT])); (try simp +contextual (disch := omega) only [Z2]); (repeat' (first | (with_reducible intro h) | (with_reducible refine And.intro (by omega) ?_) | (with_reducible refine exP (by omega) ?_) | (with_reducible apply And.intro))))
  all_goals first
    | (simp [Rul.ext_iff, *]; done)
    | skip
  refine callS.eq (w193 x.right y.right) ?_
  ((try with_reducible refine mkQI ?_); (repeat ((first | (with_reducible refine mkQU ?_) | simp only [brGen]); try simp (maxSteps := 2000000) only [↓ S2, S2, vIte, ↓reduceIte, Int.reduceNe, Nat.reduceEqDiff, reduceCtorEq, Nat.reduceLeDiff, Nat.reduceAdd, Nat.reduceLT])); (try simp +contextual (disch := omega) only [Z2]); (repeat' (first | (with_reducible intro h) | (with_reducible refine And.intro (by omega) ?_) | (with_reducible refine exP (by omega) ?_) | (with_reducible apply And.intro))))
  all_goals first
    | (simp [Rul.ext_iff, *]; done)
    | (simp_all [Rul.ext_iff]; done)
    | skip
  refine callS.eq (eqS mxd i194 (fun _ => rfl) (fun _ => rfl) x.eqs y.eqs fun a _ b _ => w259 a b) ?_
  ((try with_reducible refine mkQI ?_); (repeat ((first | (with_reducible refine mkQU ?_) | simp only [brGen]); try simp (maxSteps := 2000000) only [↓ S2, S2, vIte, ↓reduceIte, Int.reduceNe, Nat.reduceEqDiff, reduceCtorEq, Nat.reduceLeDiff, Nat.reduceAdd, Nat.reduceLT])); (try simp +contextual (disch := omega) only [Z2]); (repeat' (first | (with_reducible intro h) | (with_reducible refine And.intro (by omega) ?_) | (with_reducible refine exP (by omega) ?_) | (with_reducible apply And.intro))))
  rotate_left
  · simp_all [Rul.ext_iff]
  refine callS.eq (eqS mxd i195 (fun _ => rfl) (fun _ => rfl) x.cons y.cons fun a _ b _ => w260 a b) ?_
  ((try with_reducible refine mkQI ?_); (repeat ((first | (with_reducible refine mkQU ?_) | simp only [brGen]); try simp (maxSteps := 2000000) only [↓ S2, S2, vIte, ↓reduceIte, Int.reduceNe, Nat.reduceEqDiff, reduceCtorEq, Nat.reduceLeDiff, Nat.reduceAdd, Nat.reduceLT])); (try simp +contextual (disch := omega) only [Z2]); (repeat' (first | (with_reducible intro h) | (with_reducible refine And.intro (by omega) ?_) | (with_reducible refine exP (by omega) ?_) | (with_reducible apply And.intro)))) <;> simp_all [Rul.ext_iff]
theorem w20 (x y : Gram) : Pure Tryz.prog 20 [Gr x, Gr y] (· = B (decide (x = y))) := by
  refine gstart mxd i20 rfl (by simp) ?_; simp (maxSteps := 2000000) only [↓ S2, S2, vIte, ↓reduceIte, Int.reduceNe, Nat.reduceEqDiff, reduceCtorEq, Nat.reduceLeDiff, Nat.reduceAdd, Nat.reduceLT]
  refine callS.eq (eqS mxd i60 (fun _ => rfl) (fun _ => rfl) x.syms y.syms fun a _ b _ => w117 a b) ?_
  ((try with_reducible refine mkQI ?_); (repeat ((first | (with_reducible refine mkQU ?_) | simp only [brGen]); try simp (maxSteps := 2000000) only [↓ S2, S2, vIte, ↓reduceIte, Int.reduceNe, Nat.reduceEqDiff, reduceCtorEq, Nat.reduceLeDiff, Nat.reduceAdd, Nat.reduceLT])); (try simp +contextual (disch := omega) only [Z2]); (repeat' (first | (with_reducible intro h) | (with_reducible refine And.intro (by omega) ?_) | (with_reducible refine exP (by omega) ?_) | (with_reducible apply And.intro))))
  rotate_left
  · simp_all [Gram.ext_iff]
  refine callS.eq (eqS mxd i61 (fun _ => rfl) (fun _ => rfl) x.rules y.rules fun a _ b _ => w118 a b) ?_
  ((try with_reducible refine mkQI ?_); (repeat ((first | (with_reducible refine mkQU ?_) | simp only [brGen]); try simp (maxSteps := 2000000) only [↓ S2, S2, vIte, ↓reduceIte, Int.reduceNe, Nat.reduceEqDiff, reduceCtorEq, Nat.reduceLeDiff, Nat.reduceAdd, Nat.reduceLT])); (try simp +contextual (disch := omega) only [Z2]); (repeat' (first | (with_reducible intro h) | (with_reducible refine And.intro (by omega) ?_) | (with_reducible refine exP (by omega) ?_) | (with_reducible apply And.intro)))) <;> simp_all [Gram.ext_iff]
end Go.Proofs.YtkepdhkomchlgaaGreat

namespace Go.Proofs.YtkepdhkomchlgaaGreat
open Go.Gh
set_option maxRecDepth 20000
set_option linter.unusedSimpArgs false
set_option linter.unusedVariables false
theorem w109 (t : List Nod) (i : Int) : Pure Tryz.prog 109 [Tr t, I i] (· = B (decide (0 ≤ i ∧ i < t.length))) := by
  refine GCalls.lenA fun hl => ?_
  obtain ⟨hlen, _⟩ := lenTr hl.1
  refine gstart mxd i109 rfl (by simp) ?_; simp (maxSteps := 2000000) only [↓ S2, S2, vIte, ↓reduceIte, Int.reduceNe, Nat.reduceEqDiff, reduceCtorEq, Nat.reduceLeDiff, Nat.reduceAdd, Nat.reduceLT]
  refine callS.eq (w70 _ _ _) ?_
  ((try with_reducible refine mkQI ?_); (repeat ((first | (with_reducible refine mkQU ?_) | simp only [brGen]); try simp (maxSteps := 2000000) only [↓ S2, S2, vIte, ↓reduceIte, Int.reduceNe, Nat.reduceEqDiff, reduceCtorEq, Nat.reduceLeDiff, Nat.reduceAdd, Nat.reduceLT])); (try simp +contextual (disch := omega) only [Z2]); (repeat' (first | (with_reducible intro h) | (with_reducible refine And.intro (by omega) ?_) | (with_reducible refine exP (by omega) ?_) | (with_reducible apply And.intro))))
  exact bEq (by omega)
theorem w138 (x y : Int) : Pure Tryz.prog 138 [I x, I y] (· = I (max x y)) := by
  refine gstart mxd i138 rfl (by simp) ?_; simp (maxSteps := 2000000) only [↓ S2, S2, vIte, ↓reduceIte, Int.reduceNe, Nat.reduceEqDiff, reduceCtorEq, Nat.reduceLeDiff, Nat.reduceAdd, Nat.reduceLT]
  ((try with_reducible refine mkQI ?_); (repeat ((first | (with_reducible refine mkQU ?_) | simp only [brGen]); try simp (maxSteps := 2000000) only [↓ S2, S2, vIte, ↓reduceIte, Int.reduceNe, Nat.reduceEqDiff, reduceCtorEq, Nat.reduceLeDiff, Nat.reduceAdd, Nat.reduceLT])); (try simp +contextual (disch := omega) only [Z2]); (repeat' (first | (with_reducible intro h) | (with_reducible refine And.intro (by omega) ?_) | (with_reducible refine exP (by omega) ?_) | (with_reducible apply And.intro)))) <;> simp <;> omega
end Go.Proofs.YtkepdhkomchlgaaGreat

namespace Go.Proofs.YtkepdhkomchlgaaGreat
open Go.Gh
set_option maxRecDepth 20000
set_option linter.unusedSimpArgs false
set_option linter.unusedVariables false
theorem w315 (b : Bool) : Pure Tryz.prog 315 [B b] (· = I (trV b)) := by
  refine gstart mxd i315 rfl (by simp) ?_; simp (maxSteps := 2000000) only [↓ S2, S2, vIte, ↓reduceIte, Int.reduceNe, Nat.reduceEqDiff, reduceCtorEq, Nat.reduceLeDiff, Nat.reduceAdd, Nat.reduceLT]
  ((try with_reducible refine mkQI ?_); (repeat ((first | (with_reducible refine mkQU ?_) | simp only [brGen]); try simp (maxSteps := 2000000) only [↓ S2, S2, vIte, ↓reduceIte, Int.reduceNe, Nat.reduceEqDiff, reduceCtorEq, Nat.reduceLeDiff, Nat.reduceAdd, Nat.reduceLT])); (try simp +contextual (disch := omega) only [Z2]); (repeat' (first | (with_reducible intro h) | (with_reducible refine And.intro (by omega) ?_) | (with_reducible refine exP (by omega) ?_) | (with_reducible apply And.intro)))) <;> simp_all [trV]
theorem w314 (a b : Int) : Pure Tryz.prog 314 [I a, I b] (· = I (min a b)) := by
  refine gstart mxd i314 rfl (by simp) ?_; simp (maxSteps := 2000000) only [↓ S2, S2, vIte, ↓reduceIte, Int.reduceNe, Nat.reduceEqDiff, reduceCtorEq, Nat.reduceLeDiff, Nat.reduceAdd, Nat.reduceLT]
  ((try with_reducible refine mkQI ?_); (repeat ((first | (with_reducible refine mkQU ?_) | simp only [brGen]); try simp (maxSteps := 2000000) only [↓ S2, S2, vIte, ↓reduceIte, Int.reduceNe, Nat.reduceEqDiff, reduceCtorEq, Nat.reduceLeDiff, Nat.reduceAdd, Nat.reduceLT])); (try simp +contextual (disch := omega) only [Z2]); (repeat' (first | (with_reducible intro h) | (with_reducible refine And.intro (by omega) ?_) | (with_reducible refine exP (by omega) ?_) | (with_reducible apply And.intro)))) <;> (congr 2; omega)
theorem w313 (n : Int) : Pure Tryz.prog 313 [I n] (· = I (satV n)) := by
  refine gstart mxd i313 rfl (by simp) ?_; simp (maxSteps := 2000000) only [↓ S2, S2, vIte, ↓reduceIte, Int.reduceNe, Nat.reduceEqDiff, reduceCtorEq, Nat.reduceLeDiff, Nat.reduceAdd, Nat.reduceLT]
  refine callS.eq (w314 _ _) ?_
  ((try with_reducible refine mkQI ?_); (repeat ((first | (with_reducible refine mkQU ?_) | simp only [brGen]); try simp (maxSteps := 2000000) only [↓ S2, S2, vIte, ↓reduceIte, Int.reduceNe, Nat.reduceEqDiff, reduceCtorEq, Nat.reduceLeDiff, Nat.reduceAdd, Nat.reduceLT])); (try simp +contextual (disch := omega) only [Z2]); (repeat' (first | (with_reducible intro h) | (with_reducible refine And.intro (by omega) ?_) | (with_reducible refine exP (by omega) ?_) | (with_reducible apply And.intro))))
  refine callS.eq (w138 _ _) ?_
  ((try with_reducible refine mkQI ?_); (repeat ((first | (with_reducible refine mkQU ?_) | simp only [brGen]); try simp (maxSteps := 2000000) only [↓ S2, S2, vIte, ↓reduceIte, Int.reduceNe, Nat.reduceEqDiff, reduceCtorEq, Nat.reduceLeDiff, Nat.reduceAdd, Nat.reduceLT])); (try simp +contextual (disch := omega) only [Z2]); (repeat' (first | (with_reducible intro h) | (with_reducible refine And.intro (by omega) ?_) | (with_reducible refine exP (by omega) ?_) | (with_reducible apply And.intro)))) <;> rfl
theorem w302 (v k : Int) : Pure Tryz.prog 302 [I v, I k] (· = I (coV v k)) := by
  refine gstart mxd i302 rfl (by simp) ?_; simp (maxSteps := 2000000) only [↓ S2, S2, vIte, ↓reduceIte, Int.reduceNe, Nat.reduceEqDiff, reduceCtorEq, Nat.reduceLeDiff, Nat.reduceAdd, Nat.reduceLT]
  ((try with_reducible refine mkQI ?_); (repeat ((first | (with_reducible refine mkQU ?_) | simp only [brGen]); try simp (maxSteps := 2000000) only [↓ S2, S2, vIte, ↓reduceIte, Int.reduceNe, Nat.reduceEqDiff, reduceCtorEq, Nat.reduceLeDiff, Nat.reduceAdd, Nat.reduceLT])); (try simp +contextual (disch := omega) only [Z2]); (repeat' (first | (with_reducible intro h) | (with_reducible refine And.intro (by omega) ?_) | (with_reducible refine exP (by omega) ?_) | (with_reducible apply And.intro))))
  · refine callS.eq (w313 _) ?_
    ((try with_reducible refine mkQI ?_); (repeat ((first | (with_reducible refine mkQU ?_) | simp only [brGen]); try simp (maxSteps := 2000000) only [↓ S2, S2, vIte, ↓reduceIte, Int.reduceNe, Nat.reduceEqDiff, reduceCtorEq, Nat.reduceLeDiff, Nat.reduceAdd, Nat.reduceLT])); (try simp +contextual (disch := omega) only [Z2]); (repeat' (first | (with_reducible intro h) | (with_reducible refine And.intro (by omega) ?_) | (with_reducible refine exP (by omega) ?_) | (with_reducible apply And.intro)))) <;> simp_all [coV]
  · simp_all [coV]
  · refine callS.eq (w315 _) ?_
    ((try with_reducible refine mkQI ?_); (repeat ((first | (with_reducible refine mkQU ?_) | simp only [brGen]); try simp (maxSteps := 2000000) only [↓ S2, S2, vIte, ↓reduceIte, Int.reduceNe, Nat.reduceEqDiff, reduceCtorEq, Nat.reduceLeDiff, Nat.reduceAdd, Nat.reduceLT])); (try simp +contextual (disch := omega) only [Z2]); (repeat' (first | (with_reducible intro h) | (with_reducible refine And.intro (by omega) ?_) | (with_reducible refine exP (by omega) ?_) | (with_reducible apply And.intro)))) <;> simp_all [coV]
  · refine callS.eq (w67 _ _ _) ?_
    ((try with_reducible refine mkQI ?_); (repeat ((first | (with_reducible refine mkQU ?_) | simp only [brGen]); try simp (maxSteps := 2000000) only [↓ S2, S2, vIte, ↓reduceIte, Int.reduceNe, Nat.reduceEqDiff, reduceCtorEq, Nat.reduceLeDiff, Nat.reduceAdd, Nat.reduceLT])); (try simp +contextual (disch := omega) only [Z2]); (repeat' (first | (with_reducible intro h) | (with_reducible refine And.intro (by omega) ?_) | (with_reducible refine exP (by omega) ?_) | (with_reducible apply And.intro)))) <;> simp_all [coV] <;> (intros; omega)
  · simp_all [coV]
theorem w261 (v k : Int) : Pure Tryz.prog 261 [I v, I k] (· = B (okV v k)) := by
  refine gstart mxd i261 rfl (by simp) ?_; simp (maxSteps := 2000000) only [↓ S2, S2, vIte, ↓reduceIte, Int.reduceNe, Nat.reduceEqDiff, reduceCtorEq, Nat.reduceLeDiff, Nat.reduceAdd, Nat.reduceLT]
  refine callS.eq (w67 _ _ _) ?_
  ((try with_reducible refine mkQI ?_); (repeat ((first | (with_reducible refine mkQU ?_) | simp only [brGen]); try simp (maxSteps := 2000000) only [↓ S2, S2, vIte, ↓reduceIte, Int.reduceNe, Nat.reduceEqDiff, reduceCtorEq, Nat.reduceLeDiff, Nat.reduceAdd, Nat.reduceLT])); (try simp +contextual (disch := omega) only [Z2]); (repeat' (first | (with_reducible intro h) | (with_reducible refine And.intro (by omega) ?_) | (with_reducible refine exP (by omega) ?_) | (with_reducible apply And.intro))))
  · refine callS.eq (w302 _ _) ?_
    ((try with_reducible refine mkQI ?_); (repeat ((first | (with_reducible refine mkQU ?_) | simp only [brGen]); try simp (maxSteps := 2000000) only [↓ S2, S2, vIte, ↓reduceIte, Int.reduceNe, Nat.reduceEqDiff, reduceCtorEq, Nat.reduceLeDiff, Nat.reduceAdd, Nat.reduceLT])); (try simp +contextual (disch := omega) only [Z2]); (repeat' (first | (with_reducible intro h) | (with_reducible refine And.intro (by omega) ?_) | (with_reducible refine exP (by omega) ?_) | (with_reducible apply And.intro)))) <;> simp_all [okV]
  · simp_all [okV] <;> (intros; omega)
end Go.Proofs.YtkepdhkomchlgaaGreat

namespace Go.Proofs.YtkepdhkomchlgaaGreat
open Go.Gh
set_option maxRecDepth 20000
set_option linter.unusedSimpArgs false
set_option linter.unusedVariables false
theorem w199 (x : Sym) (hx : smSy x) : Pure Tryz.prog 199 [Sy x] (· = Sy x) := by
  unfold smSy at hx
  refine Pure.bor ?_
  refine gstart mxd i199 rfl (by simp) ?_; simp (maxSteps := 2000000) only [↓ S2, S2, vIte, ↓reduceIte, Int.reduceNe, Nat.reduceEqDiff, reduceCtorEq, Nat.reduceLeDiff, Nat.reduceAdd, Nat.reduceLT]
  ((try with_reducible refine mkQI ?_); (repeat ((first | (with_reducible refine mkQU ?_) | simp only [brGen]); try simp (maxSteps := 2000000) only [↓ S2, S2, vIte, ↓reduceIte, Int.reduceNe, Nat.reduceEqDiff, reduceCtorEq, Nat.reduceLeDiff, Nat.reduceAdd, Nat.reduceLT])); (try simp +contextual (disch := omega) only [Z2]); (repeat' (first | (with_reducible intro h) | (with_reducible refine And.intro (by omega) ?_) | (with_reducible refine exP (by omega) ?_) | (with_reducible apply And.intro))))
  exact .agg (.cons .refl (.cons (Bor.allM (fun _ => rfl) hget_new rfl) .nil))
theorem w130 (g : Gram) (s : ByteArray) (hg : smGr g) : Pure Tryz.prog 130 [Gr g, T s] (· = .tup [Sy (fSym g.syms s), B (hSym g.syms s)]) := by
  refine Pure.bor ?_
  have hlen := hg.1
  refine gstart mxd i130 rfl (by simp) ?_; simp (maxSteps := 2000000) only [↓ S2, S2, vIte, ↓reduceIte, Int.reduceNe, Nat.reduceEqDiff, reduceCtorEq, Nat.reduceLeDiff, Nat.reduceAdd, Nat.reduceLT]
  refine wloop mxd (ι := { i : Nat // i ≤ g.syms.length ∧ ∀ y ∈ g.syms.take i, decide (y.name = s) = false }) (fun i => [(1, T s), (2, .rop 2 (Gr g)), (4, .raw 2), (6, I i.1)]) (fun _ => []) (fun i => g.syms.length - i.1) ⟨0, by simp⟩ (by simp [E2]) rfl ?_
  rintro ⟨i, hi, hn⟩
  ((try with_reducible refine mkQI ?_); (repeat ((first | (with_reducible refine mkQU ?_) | simp only [brGen]); try simp (maxSteps := 2000000) only [↓ S2, S2, vIte, ↓reduceIte, Int.reduceNe, Nat.reduceEqDiff, reduceCtorEq, Nat.reduceLeDiff, Nat.reduceAdd, Nat.reduceLT])); (try simp +contextual (disch := omega) only [Z2]); (repeat' (first | (with_reducible intro h) | (with_reducible refine And.intro (by omega) ?_) | (with_reducible refine exP (by omega) ?_) | (with_reducible apply And.intro))))
  · subst h
    refine callS.eq (w199 g.syms[i] (hg.2.2.1 _ (List.getElem_mem _))) ?_
    ((try with_reducible refine mkQI ?_); (repeat ((first | (with_reducible refine mkQU ?_) | simp only [brGen]); try simp (maxSteps := 2000000) only [↓ S2, S2, vIte, ↓reduceIte, Int.reduceNe, Nat.reduceEqDiff, reduceCtorEq, Nat.reduceLeDiff, Nat.reduceAdd, Nat.reduceLT])); (try simp +contextual (disch := omega) only [Z2]); (repeat' (first | (with_reducible intro h) | (with_reducible refine And.intro (by omega) ?_) | (with_reducible refine exP (by omega) ?_) | (with_reducible apply And.intro))))
    have e := find_hit (p := fun x : Sym => decide (x.name = g.syms[i].name)) (xs := g.syms) (i := i) (by assumption) (by simp) hn
    simp only [fSym, hSym, e]
    exact .refl
  · exact nx ⟨i + 1, by omega, take_step (by assumption) (by simp [*]) hn⟩ (by simp; omega) (by simp [E2]) rfl
  · have : i = g.syms.length := by omega
    subst this
    rw [List.take_of_length_le (Nat.le_refl _)] at hn
    have e := find_none hn
    simp only [fSym, hSym, e]
    exact .tup (.cons (.agg (.cons .refl (.cons .nil .nil))) (.cons .refl .nil))
theorem w144 (g : Sym) (s : ByteArray) (hg : smSy g) : Pure Tryz.prog 144 [Sy g, T s] (· = .tup [At (fAtt g.atts s), B (hAtt g.atts s)]) := by
  unfold smSy at hg
  refine gstart mxd i144 rfl (by simp) ?_; simp (maxSteps := 2000000) only [↓ S2, S2, vIte, ↓reduceIte, Int.reduceNe, Nat.reduceEqDiff, reduceCtorEq, Nat.reduceLeDiff, Nat.reduceAdd, Nat.reduceLT]
  refine wloop mxd (ι := { i : Nat // i ≤ g.atts.length ∧ ∀ y ∈ g.atts.take i, decide (y.name = s) = false }) (fun i => [(1, T s), (2, .rop 2 (Sy g)), (4, .raw 4), (6, I i.1)]) (fun _ => []) (fun i => g.atts.length - i.1) ⟨0, by simp⟩ (by simp [E2]) rfl ?_
  rintro ⟨i, hi, hn⟩
  ((try with_reducible refine mkQI ?_); (repeat ((first | (with_reducible refine mkQU ?_) | simp only [brGen]); try simp (maxSteps := 2000000) only [↓ S2, S2, vIte, ↓reduceIte, Int.reduceNe, Nat.reduceEqDiff, reduceCtorEq, Nat.reduceLeDiff, Nat.reduceAdd, Nat.reduceLT])); (try simp +contextual (disch := omega) only [Z2]); (repeat' (first | (with_reducible intro h) | (with_reducible refine And.intro (by omega) ?_) | (with_reducible refine exP (by omega) ?_) | (with_reducible apply And.intro))))
  · subst h
    have e := find_hit (p := fun x : Att => decide (x.name = g.atts[i].name)) (xs := g.atts) (i := i) (by assumption) (by simp) hn
    simp only [fAtt, hAtt, e]
    rfl
  · exact nx ⟨i + 1, by omega, take_step (by assumption) (by simp [*]) hn⟩ (by simp; omega) (by simp [E2]) rfl
  · have : i = g.atts.length := by omega
    subst this
    rw [List.take_of_length_le (Nat.le_refl _)] at hn
    have e := find_none hn
    simp only [fAtt, hAtt, e]
    rfl
theorem w132 (g : Gram) (s : ByteArray) (hg : smGr g) : Pure Tryz.prog 132 [Gr g, T s] (· = .tup [Sy (fSym g.syms s), B (hSym g.syms s)]) := by
  refine Pure.bor ?_
  have hlen := hg.1
  refine gstart mxd i132 rfl (by simp) ?_; simp (maxSteps := 2000000) only [↓ S2, S2, vIte, ↓reduceIte, Int.reduceNe, Nat.reduceEqDiff, reduceCtorEq, Nat.reduceLeDiff, Nat.reduceAdd, Nat.reduceLT]
  refine wloop mxd (ι := { i : Nat // i ≤ g.syms.length ∧ ∀ y ∈ g.syms.take i, decide (y.name = s) = false }) (fun i => [(1, T s), (4, .raw 2), (9, SyS g.syms), (10, I g.syms.length), (11, I i.1)]) (fun _ => []) (fun i => g.syms.length - i.1) ⟨0, by simp⟩ (by simp [E2]) rfl ?_
  rintro ⟨i, hi, hn⟩
  ((try with_reducible refine mkQI ?_); (repeat ((first | (with_reducible refine mkQU ?_) | simp only [brGen]); try simp (maxSteps := 2000000) only [↓ S2, S2, vIte, ↓reduceIte, Int.reduceNe, Nat.reduceEqDiff, reduceCtorEq, Nat.reduceLeDiff, Nat.reduceAdd, Nat.reduceLT])); (try simp +contextual (disch := omega) only [Z2]); (repeat' (first | (with_reducible intro h) | (with_reducible refine And.intro (by omega) ?_) | (with_reducible refine exP (by omega) ?_) | (with_reducible apply And.intro))))
  · subst h
    have e := find_hit (p := fun x : Sym => decide (x.name = g.syms[i].name)) (xs := g.syms) (i := i) (by assumption) (by simp) hn
    simp only [fSym, hSym, e]
    exact .refl
  · exact nx ⟨i + 1, by omega, take_step (by assumption) (by simp [*]) hn⟩ (by simp; omega) (by simp [E2]) rfl
  · have : i = g.syms.length := by omega
    subst this
    rw [List.take_of_length_le (Nat.le_refl _)] at hn
    have e := find_none hn
    simp only [fSym, hSym, e]
    exact .tup (.cons (.agg (.cons .refl (.cons .nil .nil))) (.cons .refl .nil))
theorem w155 (g : Sym) (s : ByteArray) (hg : smSy g) : Pure Tryz.prog 155 [Sy g, T s] (· = .tup [At (fAtt g.atts s), B (hAtt g.atts s)]) := by
  unfold smSy at hg
  refine gstart mxd i155 rfl (by simp) ?_; simp (maxSteps := 2000000) only [↓ S2, S2, vIte, ↓reduceIte, Int.reduceNe, Nat.reduceEqDiff, reduceCtorEq, Nat.reduceLeDiff, Nat.reduceAdd, Nat.reduceLT]
  refine wloop mxd (ι := { i : Nat // i ≤ g.atts.length ∧ ∀ y ∈ g.atts.take i, decide (y.name = s) = false }) (fun i => [(1, T s), (4, .raw 4), (9, AtS g.atts), (10, I g.atts.length), (11, I i.1)]) (fun _ => []) (fun i => g.atts.length - i.1) ⟨0, by simp⟩ (by simp [E2]) rfl ?_
  rintro ⟨i, hi, hn⟩
  ((try with_reducible refine mkQI ?_); (repeat ((first | (with_reducible refine mkQU ?_) | simp only [brGen]); try simp (maxSteps := 2000000) only [↓ S2, S2, vIte, ↓reduceIte, Int.reduceNe, Nat.reduceEqDiff, reduceCtorEq, Nat.reduceLeDiff, Nat.reduceAdd, Nat.reduceLT])); (try simp +contextual (disch := omega) only [Z2]); (repeat' (first | (with_reducible intro h) | (with_reducible refine And.intro (by omega) ?_) | (with_reducible refine exP (by omega) ?_) | (with_reducible apply And.intro))))
  · subst h
    have e := find_hit (p := fun x : Att => decide (x.name = g.atts[i].name)) (xs := g.atts) (i := i) (by assumption) (by simp) hn
    simp only [fAtt, hAtt, e]
    rfl
  · exact nx ⟨i + 1, by omega, take_step (by assumption) (by simp [*]) hn⟩ (by simp; omega) (by simp [E2]) rfl
  · have : i = g.atts.length := by omega
    subst this
    rw [List.take_of_length_le (Nat.le_refl _)] at hn
    have e := find_none hn
    simp only [fAtt, hAtt, e]
    rfl
theorem w177 : ∀ (e : Exp), wEx e ≤ 1048576 → Pure Tryz.prog 177 [Ex e] (· = Ex e) := by
  refine Exp.indA fun e ih hw => ?_
  obtain ⟨hl, ha⟩ := args_small hw
  refine Pure.bor ?_
  refine gstart mxd i177 rfl (by simp) ?_; simp (maxSteps := 2000000) only [↓ S2, S2, vIte, ↓reduceIte, Int.reduceNe, Nat.reduceEqDiff, reduceCtorEq, Nat.reduceLeDiff, Nat.reduceAdd, Nat.reduceLT]
  ((try with_reducible refine mkQI ?_); (repeat ((first | (with_reducible refine mkQU ?_) | simp only [brGen]); try simp (maxSteps := 2000000) only [↓ S2, S2, vIte, ↓reduceIte, Int.reduceNe, Nat.reduceEqDiff, reduceCtorEq, Nat.reduceLeDiff, Nat.reduceAdd, Nat.reduceLT, XE])); (try simp +contextual (disch := omega) only [Z2, XE]); (repeat' (first | (with_reducible intro h) | (with_reducible refine And.intro (by omega) ?_) | (with_reducible refine exP (by omega) ?_) | (with_reducible apply And.intro))))
  rename_i r hr q
  have h0 := neH_of h
  (replace h0 := h0; simp only [neH_cons, neH_nil, neA_cons, neA_nil, and_true, true_and] at h0)
  refine ploop mxd (ι := { x : Nat × Nat // x.2 ≤ e.args.length }) (fun x => [(1, .ptr r 7 0 0), (2, .raw 7), (3, .own x.1.1 7 0 x.1.2), (4, I x.1.2)]) (fun x => [(x.1.1, 7, (e.args.take x.1.2).map Ex), (r, 7, [Ex e])]) (fun x => e.args.length - x.1.2) ⟨(q, 0), by simp⟩ (by simp [E2]) (by simp [subH, hget, names, h0]) ?_
  rintro ⟨⟨q, i⟩, hi⟩ hn
  dsimp only at hi hn ⊢
  (replace hn := hn; simp only [neH_cons, neH_nil, neA_cons, neA_nil, and_true, true_and] at hn)
  ((try with_reducible refine mkQI ?_); (repeat ((first | (with_reducible refine mkQU ?_) | simp only [brGen]); try simp (maxSteps := 2000000) only [↓ S2, S2, vIte, ↓reduceIte, Int.reduceNe, Nat.reduceEqDiff, reduceCtorEq, Nat.reduceLeDiff, Nat.reduceAdd, Nat.reduceLT, XE, hget_c, hset_c, hdel_c, hn, t_ldf])); (try simp +contextual (disch := omega) only [Z2, XE, hget_c, hset_c, hdel_c, hn, t_ldf]); (repeat' (first | (with_reducible intro h) | (with_reducible refine And.intro (by omega) ?_) | (with_reducible refine exP (by omega) ?_) | (with_reducible apply And.intro))))
  · refine callS.eq (ih _ (List.getElem_mem _) (ha _ (List.getElem_mem _))) ?_
    ((try with_reducible refine mkQI ?_); (repeat ((first | (with_reducible refine mkQU ?_) | simp only [brGen]); try simp (maxSteps := 2000000) only [↓ S2, S2, vIte, ↓reduceIte, Int.reduceNe, Nat.reduceEqDiff, reduceCtorEq, Nat.reduceLeDiff, Nat.reduceAdd, Nat.reduceLT, XE, hget_c, hset_c, hdel_c, hn, t_ldf])); (try simp +contextual (disch := omega) only [Z2, XE, hget_c, hset_c, hdel_c, hn, t_ldf]); (repeat' (first | (with_reducible intro h) | (with_reducible refine And.intro (by omega) ?_) | (with_reducible refine exP (by omega) ?_) | (with_reducible apply And.intro))))
    rename_i q2
    have h2 := neH_of h
    (replace h2 := h2; simp only [neH_cons, neH_nil, neA_cons, neA_nil, and_true, true_and] at h2)
    ((try with_reducible refine mkQI ?_); (repeat ((first | (with_reducible refine mkQU ?_) | simp only [brGen]); try simp (maxSteps := 2000000) only [↓ S2, S2, vIte, ↓reduceIte, Int.reduceNe, Nat.reduceEqDiff, reduceCtorEq, Nat.reduceLeDiff, Nat.reduceAdd, Nat.reduceLT, XE, hget_c, hset_c, hdel_c, hn, h2, t_ldf])); (try simp +contextual (disch := omega) only [Z2, XE, hget_c, hset_c, hdel_c, hn, h2, t_ldf]); (repeat' (first | (with_reducible intro h) | (with_reducible refine And.intro (by omega) ?_) | (with_reducible refine exP (by omega) ?_) | (with_reducible apply And.intro))))
    · simp; omega
    rename_i q3
    have h3 := neH_of h
    (replace h3 := h3; simp only [neH_cons, neH_nil, neA_cons, neA_nil, and_true, true_and] at h3)
    rw [takeApp Ex e.args i (by assumption)]
    exact px ⟨(q3, i + 1), by omega⟩ (by simp; omega) (by simp [E2]) (by simp [subH, hget, names, h3])
  · rw [Ex_eq e]
    refine .agg (.cons .refl (.cons .refl (.cons .refl (.cons .refl (.cons .refl (.cons .refl (.cons ?_ .nil)))))))
    have : i = e.args.length := by omega
    subst this
    rw [List.take_length]
    exact Bor.allM view_Ex hget_new rfl
theorem w110 (g : Gram) (s : ByteArray) (hg : smGr g) : Pure Tryz.prog 110 [Gr g, T s] (· = .tup [Ru (fRul g.rules s), B (hRul g.rules s)]) := by
  refine Pure.bor ?_
  have hlen := hg.2.1
  refine gstart mxd i110 rfl (by simp) ?_; simp (maxSteps := 2000000) only [↓ S2, S2, vIte, ↓reduceIte, Int.reduceNe, Nat.reduceEqDiff, reduceCtorEq, Nat.reduceLeDiff, Nat.reduceAdd, Nat.reduceLT]
  refine wloop mxd (ι := { i : Nat // i ≤ g.rules.length ∧ ∀ y ∈ g.rules.take i, decide (y.name = s) = false }) (fun i => [(1, T s), (4, .raw 6), (9, RuS g.rules), (10, I g.rules.length), (11, I i.1)]) (fun _ => []) (fun i => g.rules.length - i.1) ⟨0, by simp⟩ (by simp [E2]) rfl ?_
  rintro ⟨i, hi, hn⟩
  ((try with_reducible refine mkQI ?_); (repeat ((first | (with_reducible refine mkQU ?_) | simp only [brGen]); try simp (maxSteps := 2000000) only [↓ S2, S2, vIte, ↓reduceIte, Int.reduceNe, Nat.reduceEqDiff, reduceCtorEq, Nat.reduceLeDiff, Nat.reduceAdd, Nat.reduceLT])); (try simp +contextual (disch := omega) only [Z2]); (repeat' (first | (with_reducible intro h) | (with_reducible refine And.intro (by omega) ?_) | (with_reducible refine exP (by omega) ?_) | (with_reducible apply And.intro))))
  · subst h
    have e := find_hit (p := fun x : Rul => decide (x.name = g.rules[i].name)) (xs := g.rules) (i := i) (by assumption) (by simp) hn
    simp only [fRul, hRul, e]
    exact .refl
  · exact nx ⟨i + 1, by omega, take_step (by assumption) (by simp [*]) hn⟩ (by simp; omega) (by simp [E2]) rfl
  · have : i = g.rules.length := by omega
    subst this
    rw [List.take_of_length_le (Nat.le_refl _)] at hn
    have e := find_none hn
    simp only [fRul, hRul, e]
    exact .tup (.cons (.agg (.cons .refl (.cons .refl (.cons .nil (.cons .refl (.cons .nil (.cons .nil .nil))))))) (.cons .refl .nil))
end Go.Proofs.YtkepdhkomchlgaaGreat

namespace Go.Proofs.YtkepdhkomchlgaaGreat
open Go.Gh
set_option maxRecDepth 20000
set_option linter.unusedSimpArgs false
set_option linter.unusedVariables false
theorem w176 (e : Rul) (hr : smRu e) : Pure Tryz.prog 176 [Ru e] (· = Ru e) := by
  obtain ⟨h1, h2, h3, h4, h5⟩ := hr
  refine Pure.bor ?_
  refine gstart mxd i176 rfl (by simp) ?_; simp (maxSteps := 2000000) only [↓ S2, S2, vIte, ↓reduceIte, Int.reduceNe, Nat.reduceEqDiff, reduceCtorEq, Nat.reduceLeDiff, Nat.reduceAdd, Nat.reduceLT]
  ((try with_reducible refine mkQI ?_); (repeat ((first | (with_reducible refine mkQU ?_) | simp only [brGen]); try simp (maxSteps := 2000000) only [↓ S2, S2, vIte, ↓reduceIte, Int.reduceNe, Nat.reduceEqDiff, reduceCtorEq, Nat.reduceLeDiff, Nat.reduceAdd, Nat.reduceLT, XE])); (try simp +contextual (disch := omega) only [Z2, XE]); (repeat' (first | (with_reducible intro h) | (with_reducible refine And.intro (by omega) ?_) | (with_reducible refine exP (by omega) ?_) | (with_reducible apply And.intro))))
  rename_i ra _ rr _ r0
  have h0 := neH_of h
  (replace h0 := h0; simp only [neH_cons, neH_nil, neA_cons, neA_nil, and_true, true_and] at h0)
  obtain ⟨v, ho, hv⟩ := vfresh [r0, rr]
  refine ploopF mxd (ι := { x : Nat × Nat // x.2 ≤ e.eqs.length }) (fun x => [(1, .rop 6 (Ru e)), (2, .raw 6), (3, .ptr r0 6 0 0), (4, I x.1.2)])
    (fun x => [(x.1.1, 9, (e.eqs.take x.1.2).map Qn), (r0, 6, [.agg [T e.name, T e.left, .own rr 1 0 e.right.length, B e.lit, .own x.1.1 9 0 x.1.2, .val (.slice none 0 0)]]), (rr, 1, e.right.map T)])
    (fun x => e.eqs.length - x.1.2) ⟨(v, 0), by simp⟩ (FE.virtF (i := 0) (j := 4) (sz1 := 9) hget_new rfl rfl ho hv) (by simp [E2]) ?_ ?_
  · simp only [List.mem_cons, List.not_mem_nil, or_false, not_or] at hv
    simp [subH, hget, hset, names, h0, hv]
  rintro ⟨⟨q, i⟩, hi⟩ hn
  dsimp only at hi hn ⊢
  (replace hn := hn; simp only [neH_cons, neH_nil, neA_cons, neA_nil, and_true, true_and] at hn)
  ((try with_reducible refine mkQI ?_); (repeat ((first | (with_reducible refine mkQU ?_) | simp only [brGen]); try simp (maxSteps := 2000000) only [↓ S2, S2, vIte, ↓reduceIte, Int.reduceNe, Nat.reduceEqDiff, reduceCtorEq, Nat.reduceLeDiff, Nat.reduceAdd, Nat.reduceLT, XE, hget_c, hset_c, hdel_c, hn, t_ldf])); (try simp +contextual (disch := omega) only [Z2, XE, hget_c, hset_c, hdel_c, hn, t_ldf]); (repeat' (first | (with_reducible intro h) | (with_reducible refine And.intro (by omega) ?_) | (with_reducible refine exP (by omega) ?_) | (with_reducible apply And.intro))))
  · refine callS.eq (w177 _ (h4 _ (List.getElem_mem _))) ?_
    ((try with_reducible refine mkQI ?_); (repeat ((first | (with_reducible refine mkQU ?_) | simp only [brGen]); try simp (maxSteps := 2000000) only [↓ S2, S2, vIte, ↓reduceIte, Int.reduceNe, Nat.reduceEqDiff, reduceCtorEq, Nat.reduceLeDiff, Nat.reduceAdd, Nat.reduceLT, XE, hget_c, hset_c, hdel_c, hn, t_ldf])); (try simp +contextual (disch := omega) only [Z2, XE, hget_c, hset_c, hdel_c, hn, t_ldf]); (repeat' (first | (with_reducible intro h) | (with_reducible refine And.intro (by omega) ?_) | (with_reducible refine exP (by omega) ?_) | (with_reducible apply And.intro))))
    rename_i q2
    have h2 := neH_of h
    (replace h2 := h2; simp only [neH_cons, neH_nil, neA_cons, neA_nil, and_true, true_and] at h2)
    ((try with_reducible refine mkQI ?_); (repeat ((first | (with_reducible refine mkQU ?_) | simp only [brGen]); try simp (maxSteps := 2000000) only [↓ S2, S2, vIte, ↓reduceIte, Int.reduceNe, Nat.reduceEqDiff, reduceCtorEq, Nat.reduceLeDiff, Nat.reduceAdd, Nat.reduceLT, XE, hget_c, hset_c, hdel_c, hn, h2, t_ldf])); (try simp +contextual (disch := omega) only [Z2, XE, hget_c, hset_c, hdel_c, hn, h2, t_ldf]); (repeat' (first | (with_reducible intro h) | (with_reducible refine And.intro (by omega) ?_) | (with_reducible refine exP (by omega) ?_) | (with_reducible apply And.intro))))
    · simp; omega
    rename_i q3
    have h3 := neH_of h
    (replace h3 := h3; simp only [neH_cons, neH_nil, neA_cons, neA_nil, and_true, true_and] at h3)
    ((try with_reducible refine mkQI ?_); (repeat ((first | (with_reducible refine mkQU ?_) | simp only [brGen]); try simp (maxSteps := 2000000) only [↓ S2, S2, vIte, ↓reduceIte, Int.reduceNe, Nat.reduceEqDiff, reduceCtorEq, Nat.reduceLeDiff, Nat.reduceAdd, Nat.reduceLT, XE, hget_c, hset_c, hdel_c, hn, h2, h3, t_ldf])); (try simp +contextual (disch := omega) only [Z2, XE, hget_c, hset_c, hdel_c, hn, h2, h3, t_ldf]); (repeat' (first | (with_reducible intro h) | (with_reducible refine And.intro (by omega) ?_) | (with_reducible refine exP (by omega) ?_) | (with_reducible apply And.intro))))
    rw [takeApp Qn e.eqs i (by assumption)]
    exact px ⟨(q3, i + 1), by omega⟩ (by simp; omega) (by simp [E2]) (by simp [subH, hget, names, h3])
  · have : i = e.eqs.length := by omega
    subst this
    rw [List.take_length]
    obtain ⟨v, ho, hv⟩ := vfresh [q, r0, rr]
    refine ploopF mxd (ι := { x : Nat × Nat // x.2 ≤ e.cons.length }) (fun x => [(1, .rop 6 (Ru e)), (2, .raw 6), (3, .ptr r0 6 0 0), (5, I x.1.2)])
      (fun x => [(x.1.1, 16, (e.cons.take x.1.2).map Co), (q, 9, e.eqs.map Qn), (r0, 6, [.agg [T e.name, T e.left, .own rr 1 0 e.right.length, B e.lit, .own q 9 0 e.eqs.length, .own x.1.1 16 0 x.1.2]]), (rr, 1, e.right.map T)])
      (fun x => e.cons.length - x.1.2) ⟨(v, 0), by simp⟩ (FE.virtF (r := r0) (i := 0) (j := 5) (sz1 := 16) (by simp [hget, hn]; exact ⟨rfl, rfl⟩) rfl rfl ho hv) (by simp [E2]) ?_ ?_
    · simp only [List.mem_cons, List.not_mem_nil, or_false, not_or] at hv
      simp [subH, hget, hset, names, hn, hv]
    rintro ⟨⟨p, i⟩, hi⟩ hn
    dsimp only at hi hn ⊢
    (replace hn := hn; simp only [neH_cons, neH_nil, neA_cons, neA_nil, and_true, true_and] at hn)
    ((try with_reducible refine mkQI ?_); (repeat ((first | (with_reducible refine mkQU ?_) | simp only [brGen]); try simp (maxSteps := 2000000) only [↓ S2, S2, vIte, ↓reduceIte, Int.reduceNe, Nat.reduceEqDiff, reduceCtorEq, Nat.reduceLeDiff, Nat.reduceAdd, Nat.reduceLT, XE, hget_c, hset_c, hdel_c, hn, t_ldf])); (try simp +contextual (disch := omega) only [Z2, XE, hget_c, hset_c, hdel_c, hn, t_ldf]); (repeat' (first | (with_reducible intro h) | (with_reducible refine And.intro (by omega) ?_) | (with_reducible refine exP (by omega) ?_) | (with_reducible apply And.intro))))
    · refine callS.eq (w177 _ (h5 _ (List.getElem_mem _)).1) ?_
      ((try with_reducible refine mkQI ?_); (repeat ((first | (with_reducible refine mkQU ?_) | simp only [brGen]); try simp (maxSteps := 2000000) only [↓ S2, S2, vIte, ↓reduceIte, Int.reduceNe, Nat.reduceEqDiff, reduceCtorEq, Nat.reduceLeDiff, Nat.reduceAdd, Nat.reduceLT, XE, hget_c, hset_c, hdel_c, hn, t_ldf])); (try simp +contextual (disch := omega) only [Z2, XE, hget_c, hset_c, hdel_c, hn, t_ldf]); (repeat' (first | (with_reducible intro h) | (with_reducible refine And.intro (by omega) ?_) | (with_reducible refine exP (by omega) ?_) | (with_reducible apply And.intro))))
      refine callS.eq (w177 _ (h5 _ (List.getElem_mem _)).2) ?_
      ((try with_reducible refine mkQI ?_); (repeat ((first | (with_reducible refine mkQU ?_) | simp only [brGen]); try simp (maxSteps := 2000000) only [↓ S2, S2, vIte, ↓reduceIte, Int.reduceNe, Nat.reduceEqDiff, reduceCtorEq, Nat.reduceLeDiff, Nat.reduceAdd, Nat.reduceLT, XE, hget_c, hset_c, hdel_c, hn, t_ldf])); (try simp +contextual (disch := omega) only [Z2, XE, hget_c, hset_c, hdel_c, hn, t_ldf]); (repeat' (first | (with_reducible intro h) | (with_reducible refine And.intro (by omega) ?_) | (with_reducible refine exP (by omega) ?_) | (with_reducible apply And.intro))))
      rename_i q2
      have h2 := neH_of h
      (replace h2 := h2; simp only [neH_cons, neH_nil, neA_cons, neA_nil, and_true, true_and] at h2)
      ((try with_reducible refine mkQI ?_); (repeat ((first | (with_reducible refine mkQU ?_) | simp only [brGen]); try simp (maxSteps := 2000000) only [↓ S2, S2, vIte, ↓reduceIte, Int.reduceNe, Nat.reduceEqDiff, reduceCtorEq, Nat.reduceLeDiff, Nat.reduceAdd, Nat.reduceLT, XE, hget_c, hset_c, hdel_c, hn, h2, t_ldf])); (try simp +contextual (disch := omega) only [Z2, XE, hget_c, hset_c, hdel_c, hn, h2, t_ldf]); (repeat' (first | (with_reducible intro h) | (with_reducible refine And.intro (by omega) ?_) | (with_reducible refine exP (by omega) ?_) | (with_reducible apply And.intro))))
      · simp; omega
      rename_i q3
      have h3 := neH_of h
      (replace h3 := h3; simp only [neH_cons, neH_nil, neA_cons, neA_nil, and_true, true_and] at h3)
      ((try with_reducible refine mkQI ?_); (repeat ((first | (with_reducible refine mkQU ?_) | simp only [brGen]); try simp (maxSteps := 2000000) only [↓ S2, S2, vIte, ↓reduceIte, Int.reduceNe, Nat.reduceEqDiff, reduceCtorEq, Nat.reduceLeDiff, Nat.reduceAdd, Nat.reduceLT, XE, hget_c, hset_c, hdel_c, hn, h2, h3, t_ldf])); (try simp +contextual (disch := omega) only [Z2, XE, hget_c, hset_c, hdel_c, hn, h2, h3, t_ldf]); (repeat' (first | (with_reducible intro h) | (with_reducible refine And.intro (by omega) ?_) | (with_reducible refine exP (by omega) ?_) | (with_reducible apply And.intro))))
      rw [takeApp Co e.cons i (by assumption)]
      exact px ⟨(q3, i + 1), by omega⟩ (by simp; omega) (by simp [E2]) (by simp [subH, hget, names, h3])
    · have : i = e.cons.length := by omega
      subst this
      rw [List.take_length]
      exact .agg (.cons .refl (.cons .refl (.cons (Bor.allM (fun _ => rfl) (by simp [hget, hn]) rfl) (.cons .refl (.cons (Bor.allM (fun _ => rfl) (by simp [hget, hn]) rfl) (.cons (Bor.allM (fun _ => rfl) (by simp [hget, hn]) rfl) .nil))))))
theorem w101 (g : Gram) (s : ByteArray) (hg : smGr g) : Pure Tryz.prog 101 [Gr g, T s] (· = .tup [Ru (fRul g.rules s), B (hRul g.rules s)]) := by
  refine Pure.bor ?_
  have hlen := hg.2.1
  refine gstart mxd i101 rfl (by simp) ?_; simp (maxSteps := 2000000) only [↓ S2, S2, vIte, ↓reduceIte, Int.reduceNe, Nat.reduceEqDiff, reduceCtorEq, Nat.reduceLeDiff, Nat.reduceAdd, Nat.reduceLT]
  refine wloop mxd (ι := { i : Nat // i ≤ g.rules.length ∧ ∀ y ∈ g.rules.take i, decide (y.name = s) = false }) (fun i => [(1, T s), (2, .rop 2 (Gr g)), (4, .raw 6), (6, I i.1)]) (fun _ => []) (fun i => g.rules.length - i.1) ⟨0, by simp⟩ (by simp [E2]) rfl ?_
  rintro ⟨i, hi, hn⟩
  ((try with_reducible refine mkQI ?_); (repeat ((first | (with_reducible refine mkQU ?_) | simp only [brGen]); try simp (maxSteps := 2000000) only [↓ S2, S2, vIte, ↓reduceIte, Int.reduceNe, Nat.reduceEqDiff, reduceCtorEq, Nat.reduceLeDiff, Nat.reduceAdd, Nat.reduceLT])); (try simp +contextual (disch := omega) only [Z2]); (repeat' (first | (with_reducible intro h) | (with_reducible refine And.intro (by omega) ?_) | (with_reducible refine exP (by omega) ?_) | (with_reducible apply And.intro))))
  · subst h
    refine callS.eq (w176 g.rules[i] (hg.2.2.2 _ (List.getElem_mem _))) ?_
    ((try with_reducible refine mkQI ?_); (repeat ((first | (with_reducible refine mkQU ?_) | simp only [brGen]); try simp (maxSteps := 2000000) only [↓ S2, S2, vIte, ↓reduceIte, Int.reduceNe, Nat.reduceEqDiff, reduceCtorEq, Nat.reduceLeDiff, Nat.reduceAdd, Nat.reduceLT])); (try simp +contextual (disch := omega) only [Z2]); (repeat' (first | (with_reducible intro h) | (with_reducible refine And.intro (by omega) ?_) | (with_reducible refine exP (by omega) ?_) | (with_reducible apply And.intro))))
    have e := find_hit (p := fun x : Rul => decide (x.name = g.rules[i].name)) (xs := g.rules) (i := i) (by assumption) (by simp) hn
    simp only [fRul, hRul, e]
    exact .refl
  · exact nx ⟨i + 1, by omega, take_step (by assumption) (by simp [*]) hn⟩ (by simp; omega) (by simp [E2]) rfl
  · have : i = g.rules.length := by omega
    subst this
    rw [List.take_of_length_le (Nat.le_refl _)] at hn
    have e := find_none hn
    simp only [fRul, hRul, e]
    exact .tup (.cons (.agg (.cons .refl (.cons .refl (.cons .nil (.cons .refl (.cons .nil (.cons .nil .nil))))))) (.cons .refl .nil))
theorem w129 (g : Gram) (t : List Nod) (i : Int) (hg : smGr g) : Pure Tryz.prog 129 [Gr g, Tr t, I i] (· = T (symN g t i)) := by
  refine GCalls.lenA fun hl => ?_
  obtain ⟨hlen, _⟩ := lenTr hl.2.1
  refine gstart mxd i129 rfl (by simp) ?_; simp (maxSteps := 2000000) only [↓ S2, S2, vIte, ↓reduceIte, Int.reduceNe, Nat.reduceEqDiff, reduceCtorEq, Nat.reduceLeDiff, Nat.reduceAdd, Nat.reduceLT]
  by_cases h : 0 ≤ i ∧ i < t.length
  · obtain ⟨i, rfl⟩ : ∃ k : Nat, i = k := ⟨i.toNat, by omega⟩
    have hi : i < t.length := by omega
    rw [symN_in hi]
    (repeat' (first | (with_reducible refine callS.eq (w67 _ _ _) ?_) | (with_reducible refine callS.eq (w101 _ _ hg) ?_) | simp (maxSteps := 2000000) only [↓ S2, S2, vIte, ↓reduceIte, Int.reduceNe, Nat.reduceEqDiff, reduceCtorEq, Nat.reduceLeDiff, Nat.reduceAdd, Nat.reduceLT] | simp only [brGen] | simp +contextual (disch := omega) only [Z2] | (with_reducible intro h) | (with_reducible refine And.intro (by omega) ?_) | (with_reducible refine exP (by omega) ?_) | (with_reducible apply And.intro)))
    all_goals first | rfl | (exfalso; omega)
  · rw [symN_out h]
    (repeat' (first | (with_reducible refine callS.eq (w67 _ _ _) ?_) | (with_reducible refine callS.eq (w101 _ _ hg) ?_) | simp (maxSteps := 2000000) only [↓ S2, S2, vIte, ↓reduceIte, Int.reduceNe, Nat.reduceEqDiff, reduceCtorEq, Nat.reduceLeDiff, Nat.reduceAdd, Nat.reduceLT] | simp only [brGen] | simp +contextual (disch := omega) only [Z2] | (with_reducible intro h) | (with_reducible refine And.intro (by omega) ?_) | (with_reducible refine exP (by omega) ?_) | (with_reducible apply And.intro)))
    all_goals first | rfl | (exfalso; omega)
theorem w133 (g : Gram) (t : List Nod) (i : Int) (hg : smGr g) : Pure Tryz.prog 133 [Gr g, Tr t, I i] (· = T (symN g t i)) := by
  refine GCalls.lenA fun hl => ?_
  obtain ⟨hlen, _⟩ := lenTr hl.2.1
  refine gstart mxd i133 rfl (by simp) ?_; simp (maxSteps := 2000000) only [↓ S2, S2, vIte, ↓reduceIte, Int.reduceNe, Nat.reduceEqDiff, reduceCtorEq, Nat.reduceLeDiff, Nat.reduceAdd, Nat.reduceLT]
  by_cases h : 0 ≤ i ∧ i < t.length
  · obtain ⟨i, rfl⟩ : ∃ k : Nat, i = k := ⟨i.toNat, by omega⟩
    have hi : i < t.length := by omega
    rw [symN_in hi]
    (repeat' (first | (with_reducible refine callS.eq (w109 _ _) ?_) | (with_reducible refine callS.eq (w110 _ _ hg) ?_) | simp (maxSteps := 2000000) only [↓ S2, S2, vIte, ↓reduceIte, Int.reduceNe, Nat.reduceEqDiff, reduceCtorEq, Nat.reduceLeDiff, Nat.reduceAdd, Nat.reduceLT] | simp only [brGen] | simp +contextual (disch := omega) only [Z2] | (with_reducible intro h) | (with_reducible refine And.intro (by omega) ?_) | (with_reducible refine exP (by omega) ?_) | (with_reducible apply And.intro)))
    all_goals first | rfl | (exfalso; omega)
  · rw [symN_out h]
    (repeat' (first | (with_reducible refine callS.eq (w109 _ _) ?_) | (with_reducible refine callS.eq (w110 _ _ hg) ?_) | simp (maxSteps := 2000000) only [↓ S2, S2, vIte, ↓reduceIte, Int.reduceNe, Nat.reduceEqDiff, reduceCtorEq, Nat.reduceLeDiff, Nat.reduceAdd, Nat.reduceLT] | simp only [brGen] | simp +contextual (disch := omega) only [Z2] | (with_reducible intro h) | (with_reducible refine And.intro (by omega) ?_) | (with_reducible refine exP (by omega) ?_) | (with_reducible apply And.intro)))
    all_goals first | rfl | (exfalso; omega)
theorem w107 (g : Gram) (t : List Nod) (x : Int × ByteArray) (hg : smGr g) : Pure Tryz.prog 107 [Gr g, Tr t, Ins x] (· = .tup [At (attN g t x.1 x.2), B (hasN g t x.1 x.2)]) := by
  refine gstart mxd i107 rfl (by simp) ?_; simp (maxSteps := 2000000) only [↓ S2, S2, vIte, ↓reduceIte, Int.reduceNe, Nat.reduceEqDiff, reduceCtorEq, Nat.reduceLeDiff, Nat.reduceAdd, Nat.reduceLT]
  (repeat' (first | (with_reducible refine callS.eq (w108 _ _) ?_) | (with_reducible refine callS.eq (w133 _ _ _ hg) ?_) | (with_reducible refine callS.eq (w132 _ _ hg) ?_) | (with_reducible refine callS.eq (w155 _ _ (smSy_f hg _)) ?_) | simp (maxSteps := 2000000) only [↓ S2, S2, vIte, ↓reduceIte, Int.reduceNe, Nat.reduceEqDiff, reduceCtorEq, Nat.reduceLeDiff, Nat.reduceAdd, Nat.reduceLT] | simp only [brGen] | simp +contextual (disch := omega) only [Z2] | (with_reducible intro h) | (with_reducible refine And.intro (by omega) ?_) | (with_reducible refine exP (by omega) ?_) | (with_reducible apply And.intro)))
  all_goals simp only [attN, hasN]
  · rw [if_neg (by omega), if_neg (by omega)]; rfl
  · rw [if_pos (by omega), if_pos (by omega)]
theorem w99 (g : Gram) (t : List Nod) (x : Int × ByteArray) (hg : smGr g) : Pure Tryz.prog 99 [Gr g, Tr t, Ins x] (· = .tup [At (attN g t x.1 x.2), B (hasN g t x.1 x.2)]) := by
  refine gstart mxd i99 rfl (by simp) ?_; simp (maxSteps := 2000000) only [↓ S2, S2, vIte, ↓reduceIte, Int.reduceNe, Nat.reduceEqDiff, reduceCtorEq, Nat.reduceLeDiff, Nat.reduceAdd, Nat.reduceLT]
  (repeat' (first | (with_reducible refine callS.eq (w100 _ _) ?_) | (with_reducible refine callS.eq (w129 _ _ _ hg) ?_) | (with_reducible refine callS.eq (w130 _ _ hg) ?_) | (with_reducible refine callS.eq (w144 _ _ (smSy_f hg _)) ?_) | simp (maxSteps := 2000000) only [↓ S2, S2, vIte, ↓reduceIte, Int.reduceNe, Nat.reduceEqDiff, reduceCtorEq, Nat.reduceLeDiff, Nat.reduceAdd, Nat.reduceLT] | simp only [brGen] | simp +contextual (disch := omega) only [Z2] | (with_reducible intro h) | (with_reducible refine And.intro (by omega) ?_) | (with_reducible refine exP (by omega) ?_) | (with_reducible apply And.intro)))
  all_goals simp only [attN, hasN]
  · rw [if_neg (by omega), if_neg (by omega)]; rfl
  · rw [if_pos (by omega), if_pos (by omega)]
theorem w58 (g : Gram) (t : List Nod) (i : Int) (o : Int × ByteArray) (ht : ∀ x ∈ t, x.kids.length ≤ 1048576) : Pure Tryz.prog 58 [Gr g, Tr t, I i, Occ o] (· = .tup [Ins (instAt t i o).1, B (instAt t i o).2]) := by
  refine GCalls.lenA fun hl => ?_
  obtain ⟨hlen, _⟩ := lenTr hl.2.1
  refine gstart mxd i58 rfl (by simp) ?_; simp (maxSteps := 2000000) only [↓ S2, S2, vIte, ↓reduceIte, Int.reduceNe, Nat.reduceEqDiff, reduceCtorEq, Nat.reduceLeDiff, Nat.reduceAdd, Nat.reduceLT]
  by_cases h : 0 ≤ i ∧ i < t.length
  · obtain ⟨i, rfl⟩ : ∃ k : Nat, i = k := ⟨i.toNat, by omega⟩
    have hi : i < t.length := by omega
    have hk := ht _ (List.getElem_mem hi)
    (repeat' (first | (with_reducible refine callS.eq (w109 _ _) ?_) | (with_reducible refine callS.eq (w70 _ _ _) ?_) | simp (maxSteps := 2000000) only [↓ S2, S2, vIte, ↓reduceIte, Int.reduceNe, Nat.reduceEqDiff, reduceCtorEq, Nat.reduceLeDiff, Nat.reduceAdd, Nat.reduceLT] | simp only [brGen] | simp +contextual (disch := omega) only [Z2] | (with_reducible intro h) | (with_reducible refine And.intro (by omega) ?_) | (with_reducible refine exP (by omega) ?_) | (with_reducible apply And.intro)))
    all_goals try (exfalso; omega)
    all_goals first
      | (rw [inst0 hi (by omega)]; done)
      | (rw [inst1 hi (by omega) (by omega) (by omega) (by omega)]; done)
      | (rw [inst2 hi (by omega) (by omega) (by omega)]; rfl)
      | (rw [inst3 hi (by omega)]; rfl)
  · (repeat' (first | (with_reducible refine callS.eq (w109 _ _) ?_) | (with_reducible refine callS.eq (w70 _ _ _) ?_) | simp (maxSteps := 2000000) only [↓ S2, S2, vIte, ↓reduceIte, Int.reduceNe, Nat.reduceEqDiff, reduceCtorEq, Nat.reduceLeDiff, Nat.reduceAdd, Nat.reduceLT] | simp only [brGen] | simp +contextual (disch := omega) only [Z2] | (with_reducible intro h) | (with_reducible refine And.intro (by omega) ?_) | (with_reducible refine exP (by omega) ?_) | (with_reducible apply And.intro)))
    all_goals try (exfalso; omega)
    rw [inst4 (by omega)]
    rfl
theorem w52 (g : Gram) (t : List Nod) (i : Int) (o : Int × ByteArray) (ht : ∀ x ∈ t, x.kids.length ≤ 1048576) : Pure Tryz.prog 52 [Gr g, Tr t, I i, Occ o] (· = .tup [Ins (instAt t i o).1, B (instAt t i o).2]) := by
  refine GCalls.lenA fun hl => ?_
  obtain ⟨hlen, _⟩ := lenTr hl.2.1
  refine gstart mxd i52 rfl (by simp) ?_; simp (maxSteps := 2000000) only [↓ S2, S2, vIte, ↓reduceIte, Int.reduceNe, Nat.reduceEqDiff, reduceCtorEq, Nat.reduceLeDiff, Nat.reduceAdd, Nat.reduceLT]
  by_cases h : 0 ≤ i ∧ i < t.length
  · obtain ⟨i, rfl⟩ : ∃ k : Nat, i = k := ⟨i.toNat, by omega⟩
    have hi : i < t.length := by omega
    have hk := ht _ (List.getElem_mem hi)
    (repeat' (first | (with_reducible refine callS.eq (w67 _ _ _) ?_) | simp (maxSteps := 2000000) only [↓ S2, S2, vIte, ↓reduceIte, Int.reduceNe, Nat.reduceEqDiff, reduceCtorEq, Nat.reduceLeDiff, Nat.reduceAdd, Nat.reduceLT] | simp only [brGen] | simp +contextual (disch := omega) only [Z2] | (with_reducible intro h) | (with_reducible refine And.intro (by omega) ?_) | (with_reducible refine exP (by omega) ?_) | (with_reducible apply And.intro)))
    all_goals try (exfalso; omega)
    all_goals first
      | (rw [inst0 hi (by omega)]; done)
      | (rw [inst1 hi (by omega) (by omega) (by omega) (by omega)]; done)
      | (rw [inst2 hi (by omega) (by omega) (by omega)]; rfl)
      | (rw [inst3 hi (by omega)]; rfl)
  · (repeat' (first | (with_reducible refine callS.eq (w67 _ _ _) ?_) | simp (maxSteps := 2000000) only [↓ S2, S2, vIte, ↓reduceIte, Int.reduceNe, Nat.reduceEqDiff, reduceCtorEq, Nat.reduceLeDiff, Nat.reduceAdd, Nat.reduceLT] | simp only [brGen] | simp +contextual (disch := omega) only [Z2] | (with_reducible intro h) | (with_reducible refine And.intro (by omega) ?_) | (with_reducible refine exP (by omega) ?_) | (with_reducible apply And.intro)))
    all_goals try (exfalso; omega)
    rw [inst4 (by omega)]
    rfl
end Go.Proofs.YtkepdhkomchlgaaGreat

namespace Go.Proofs.YtkepdhkomchlgaaGreat
open Go.Gh
set_option maxRecDepth 20000
set_option linter.unusedSimpArgs false
set_option linter.unusedVariables false
end Go.Proofs.YtkepdhkomchlgaaGreat

namespace Go.Proofs.YtkepdhkomchlgaaGreat
open Go.Gh
set_option maxRecDepth 20000
set_option linter.unusedSimpArgs false
set_option linter.unusedVariables false
set_option maxHeartbeats 2000000 in
theorem w198 (g : Gram) (t : List Nod) (hg : smGr g) (hl : t.length ≤ 1048576) (hk : ∀ x ∈ t, x.kids.length ≤ 1048576) : ∀ (f i : Nat) (p q : Int) (s : ByteArray), t.length ≤ i + f → Pure Tryz.prog 198 [Gr g, Tr t, I i, I p, I q, T s] (· = I (walkE g t f i p q s)) := by
  intro f
  induction f with
  | zero =>
    intro i p q s hf
    refine gstart mxd i198 rfl (by simp) ?_; simp (maxSteps := 2000000) only [↓ S2, S2, vIte, ↓reduceIte, Int.reduceNe, Nat.reduceEqDiff, reduceCtorEq, Nat.reduceLeDiff, Nat.reduceAdd, Nat.reduceLT]
    ((try with_reducible refine mkQI ?_); (repeat ((first | (with_reducible refine mkQU ?_) | simp only [brGen]); try simp (maxSteps := 2000000) only [↓ S2, S2, vIte, ↓reduceIte, Int.reduceNe, Nat.reduceEqDiff, reduceCtorEq, Nat.reduceLeDiff, Nat.reduceAdd, Nat.reduceLT])); (try simp +contextual (disch := omega) only [Z2]); (repeat' (first | (with_reducible intro h) | (with_reducible refine And.intro (by omega) ?_) | (with_reducible refine exP (by omega) ?_) | (with_reducible apply And.intro))))
    all_goals first | rfl | (exfalso; omega)
  | succ f ih =>
    intro i p q s hf
    refine gstart mxd i198 rfl (by simp) ?_; simp (maxSteps := 2000000) only [↓ S2, S2, vIte, ↓reduceIte, Int.reduceNe, Nat.reduceEqDiff, reduceCtorEq, Nat.reduceLeDiff, Nat.reduceAdd, Nat.reduceLT]
    by_cases hi : i < t.length
    rotate_left
    · rw [walkE_out (by omega)]
      ((try with_reducible refine mkQI ?_); (repeat ((first | (with_reducible refine mkQU ?_) | simp only [brGen]); try simp (maxSteps := 2000000) only [↓ S2, S2, vIte, ↓reduceIte, Int.reduceNe, Nat.reduceEqDiff, reduceCtorEq, Nat.reduceLeDiff, Nat.reduceAdd, Nat.reduceLT])); (try simp +contextual (disch := omega) only [Z2]); (repeat' (first | (with_reducible intro h) | (with_reducible refine And.intro (by omega) ?_) | (with_reducible refine exP (by omega) ?_) | (with_reducible apply And.intro))))
      all_goals first | rfl | (exfalso; omega)
    have hw : walkE g t (f + 1) i p q s = if fitV g t[i] p q s then kidsW (walkE g t f) i t[i].kids (fRul g.rules t[i].rule).right 0 (i + 1) else -1 := by simp only [walkE, if_pos hi, getD_lt hi]
    have hkk := hk _ (List.getElem_mem hi)
    have hr := smRu_f hg t[i].rule
    have hrr := hr.1
    rw [hw]
    by_cases hv : fitV g t[i] p q s = true
    · rw [if_pos hv]
      obtain ⟨h1, h2, h3, h4, h5, h6, h7⟩ := fitV_iff.1 hv
      subst h2 h3 h4
      clear hw hv
      have hR : ∃ R, fRul g.rules t[i].rule = R := ⟨_, rfl⟩
      obtain ⟨R, hR⟩ := hR
      rw [hR] at hr hrr h5 h7 ⊢
      have main : ∀ (Q : Exit → Env → GH → Prop), True := fun _ => trivial
      rcases h7 with h7 | h7
      · (repeat' (first | (with_reducible refine callS.eq (w101 _ _ hg) ?_) | (with_reducible refine callS.eq (w261 _ _) ?_) | simp (maxSteps := 2000000) only [↓ S2, S2, vIte, ↓reduceIte, Int.reduceNe, Nat.reduceEqDiff, reduceCtorEq, Nat.reduceLeDiff, Nat.reduceAdd, Nat.reduceLT, h1, h5, okV1, eq_true h6, h7, hR] | simp only [brGen] | simp +contextual (disch := omega) only [Z2] | (with_reducible intro h) | (with_reducible refine And.intro (by omega) ?_) | (with_reducible refine exP (by omega) ?_) | (with_reducible apply And.intro)))
        all_goals try (exfalso; omega)
        have hVV : ∃ V, kidsW (walkE g t f) i t[i].kids R.right 0 (i + 1) = V := ⟨_, rfl⟩
        obtain ⟨V, hVV⟩ := hVV
        rw [hVV]
        refine wloop mxd (ι := { x : Nat × Int // x.1 ≤ R.right.length ∧ (i : Int) < x.2 ∧ x.2 ≤ t.length ∧ kidsW (walkE g t f) i (t[i].kids.drop x.1) (R.right.drop x.1) x.1 x.2 = V }) (fun x => [(2, I i), (6, .rop 2 (Gr g)), (7, .rop 1 (Tr t)), (13, .rop 6 (Nd t[i])), (14, .rop 6 (Ru R)), (16, I x.1.2), (17, I x.1.1)]) (fun _ => []) (fun x => R.right.length - x.1.1) ⟨(0, i + 1), by simp, by simp; omega, by simp; omega, by simpa using hVV⟩ (by simp [E2, h7]) rfl ?_
        rintro ⟨⟨k, a⟩, hk1, ha1, ha2, hV⟩
        dsimp only at hk1 ha1 ha2 hV ⊢
        rcases Nat.lt_or_ge k R.right.length with hlt | hge
        · rw [kidsW_step (by omega) hlt] at hV
          by_cases hc : t[i].kids[k] = a
          · rw [if_neg (by simpa using hc)] at hV
            obtain ⟨m, rfl⟩ : ∃ m : Nat, a = m := ⟨a.toNat, by omega⟩
            have hm := walkE_ge (g := g) (t := t) f m i ((k : Int) + 1) R.right[k]
            simp only [Int.toNat_natCast] at hV
            (repeat' (first | (with_reducible refine callS.eq (ih m _ _ _ (by omega)) ?_) | simp (maxSteps := 2000000) only [↓ S2, S2, vIte, ↓reduceIte, Int.reduceNe, Nat.reduceEqDiff, reduceCtorEq, Nat.reduceLeDiff, Nat.reduceAdd, Nat.reduceLT, h5, hc] | simp only [brGen] | simp +contextual (disch := omega) only [Z2] | (with_reducible intro h) | (with_reducible refine And.intro (by omega) ?_) | (with_reducible refine exP (by omega) ?_) | (with_reducible apply And.intro)))
            all_goals try (exfalso; omega)
            · rw [if_pos (by assumption)] at hV; rw [← hV]
            · rw [if_neg (by assumption)] at hV
              exact nx ⟨(k + 1, walkE g t f m i ((k : Int) + 1) R.right[k]), by omega, by dsimp only; omega, by dsimp only; omega, hV⟩ (by simp; omega) (by simp [E2]) rfl
          · rw [if_pos (by simpa using hc)] at hV
            (repeat' (first | (with_reducible refine callS.eq (ih _ _ _ _ (by omega)) ?_) | simp (maxSteps := 2000000) only [↓ S2, S2, vIte, ↓reduceIte, Int.reduceNe, Nat.reduceEqDiff, reduceCtorEq, Nat.reduceLeDiff, Nat.reduceAdd, Nat.reduceLT, h5, hc] | simp only [brGen] | simp +contextual (disch := omega) only [Z2] | (with_reducible intro h) | (with_reducible refine And.intro (by omega) ?_) | (with_reducible refine exP (by omega) ?_) | (with_reducible apply And.intro)))
            all_goals first | (rw [← hV]; done) | (exfalso; omega)
        · rw [kidsW_end (by omega)] at hV
          ((try with_reducible refine mkQI ?_); (repeat ((first | (with_reducible refine mkQU ?_) | simp only [brGen]); try simp (maxSteps := 2000000) only [↓ S2, S2, vIte, ↓reduceIte, Int.reduceNe, Nat.reduceEqDiff, reduceCtorEq, Nat.reduceLeDiff, Nat.reduceAdd, Nat.reduceLT])); (try simp +contextual (disch := omega) only [Z2]); (repeat' (first | (with_reducible intro h) | (with_reducible refine And.intro (by omega) ?_) | (with_reducible refine exP (by omega) ?_) | (with_reducible apply And.intro))))
          all_goals first | (rw [← hV]; done) | (exfalso; omega)
      · (repeat' (first | (with_reducible refine callS.eq (w101 _ _ hg) ?_) | (with_reducible refine callS.eq (w261 _ _) ?_) | simp (maxSteps := 2000000) only [↓ S2, S2, vIte, ↓reduceIte, Int.reduceNe, Nat.reduceEqDiff, reduceCtorEq, Nat.reduceLeDiff, Nat.reduceAdd, Nat.reduceLT, h1, h5, okV1, eq_true h6, h7.1, eq_true h7.2, hR] | simp only [brGen] | simp +contextual (disch := omega) only [Z2] | (with_reducible intro h) | (with_reducible refine And.intro (by omega) ?_) | (with_reducible refine exP (by omega) ?_) | (with_reducible apply And.intro)))
        all_goals try (exfalso; omega)
        have hVV : ∃ V, kidsW (walkE g t f) i t[i].kids R.right 0 (i + 1) = V := ⟨_, rfl⟩
        obtain ⟨V, hVV⟩ := hVV
        rw [hVV]
        refine wloop mxd (ι := { x : Nat × Int // x.1 ≤ R.right.length ∧ (i : Int) < x.2 ∧ x.2 ≤ t.length ∧ kidsW (walkE g t f) i (t[i].kids.drop x.1) (R.right.drop x.1) x.1 x.2 = V }) (fun x => [(2, I i), (6, .rop 2 (Gr g)), (7, .rop 1 (Tr t)), (13, .rop 6 (Nd t[i])), (14, .rop 6 (Ru R)), (16, I x.1.2), (17, I x.1.1)]) (fun _ => []) (fun x => R.right.length - x.1.1) ⟨(0, i + 1), by simp, by simp; omega, by simp; omega, by simpa using hVV⟩ (by simp [E2, h7]) rfl ?_
        rintro ⟨⟨k, a⟩, hk1, ha1, ha2, hV⟩
        dsimp only at hk1 ha1 ha2 hV ⊢
        rcases Nat.lt_or_ge k R.right.length with hlt | hge
        · rw [kidsW_step (by omega) hlt] at hV
          by_cases hc : t[i].kids[k] = a
          · rw [if_neg (by simpa using hc)] at hV
            obtain ⟨m, rfl⟩ : ∃ m : Nat, a = m := ⟨a.toNat, by omega⟩
            have hm := walkE_ge (g := g) (t := t) f m i ((k : Int) + 1) R.right[k]
            simp only [Int.toNat_natCast] at hV
            (repeat' (first | (with_reducible refine callS.eq (ih m _ _ _ (by omega)) ?_) | simp (maxSteps := 2000000) only [↓ S2, S2, vIte, ↓reduceIte, Int.reduceNe, Nat.reduceEqDiff, reduceCtorEq, Nat.reduceLeDiff, Nat.reduceAdd, Nat.reduceLT, h5, hc] | simp only [brGen] | simp +contextual (disch := omega) only [Z2] | (with_reducible intro h) | (with_reducible refine And.intro (by omega) ?_) | (with_reducible refine exP (by omega) ?_) | (with_reducible apply And.intro)))
            all_goals try (exfalso; omega)
            · rw [if_pos (by assumption)] at hV; rw [← hV]
            · rw [if_neg (by assumption)] at hV
              exact nx ⟨(k + 1, walkE g t f m i ((k : Int) + 1) R.right[k]), by omega, by dsimp only; omega, by dsimp only; omega, hV⟩ (by simp; omega) (by simp [E2]) rfl
          · rw [if_pos (by simpa using hc)] at hV
            (repeat' (first | (with_reducible refine callS.eq (ih _ _ _ _ (by omega)) ?_) | simp (maxSteps := 2000000) only [↓ S2, S2, vIte, ↓reduceIte, Int.reduceNe, Nat.reduceEqDiff, reduceCtorEq, Nat.reduceLeDiff, Nat.reduceAdd, Nat.reduceLT, h5, hc] | simp only [brGen] | simp +contextual (disch := omega) only [Z2] | (with_reducible intro h) | (with_reducible refine And.intro (by omega) ?_) | (with_reducible refine exP (by omega) ?_) | (with_reducible apply And.intro)))
            all_goals first | (rw [← hV]; done) | (exfalso; omega)
        · rw [kidsW_end (by omega)] at hV
          ((try with_reducible refine mkQI ?_); (repeat ((first | (with_reducible refine mkQU ?_) | simp only [brGen]); try simp (maxSteps := 2000000) only [↓ S2, S2, vIte, ↓reduceIte, Int.reduceNe, Nat.reduceEqDiff, reduceCtorEq, Nat.reduceLeDiff, Nat.reduceAdd, Nat.reduceLT])); (try simp +contextual (disch := omega) only [Z2]); (repeat' (first | (with_reducible intro h) | (with_reducible refine And.intro (by omega) ?_) | (with_reducible refine exP (by omega) ?_) | (with_reducible apply And.intro))))
          all_goals first | (rw [← hV]; done) | (exfalso; omega)
    · rw [if_neg hv]
      rw [fitV_iff] at hv
      (repeat' (first | (with_reducible refine callS.eq (w101 _ _ hg) ?_) | (with_reducible refine callS.eq (w261 _ _) ?_) | simp (maxSteps := 2000000) only [↓ S2, S2, vIte, ↓reduceIte, Int.reduceNe, Nat.reduceEqDiff, reduceCtorEq, Nat.reduceLeDiff, Nat.reduceAdd, Nat.reduceLT] | simp only [brGen] | simp +contextual (disch := omega) only [Z2] | (with_reducible intro h) | (with_reducible refine And.intro (by omega) ?_) | (with_reducible refine exP (by omega) ?_) | (with_reducible apply And.intro)))
      all_goals try rfl
      all_goals (exfalso; apply hv; simp_all only [okV1, decide_eq_true_eq, decide_eq_false_iff_not, true_and, and_true, or_true, true_or, not_true_eq_false, not_false_eq_true]; done)
set_option maxHeartbeats 2000000 in
theorem w264 (g : Gram) (t : List Nod) (hg : smGr g) (hl : t.length ≤ 1048576) (hk : ∀ x ∈ t, x.kids.length ≤ 1048576) : ∀ (f i : Nat) (p q : Int) (s : ByteArray), t.length ≤ i + f → Pure Tryz.prog 264 [Gr g, Tr t, I i, I p, I q, T s] (· = I (walkE g t f i p q s)) := by
  intro f
  induction f with
  | zero =>
    intro i p q s hf
    refine gstart mxd i264 rfl (by simp) ?_; simp (maxSteps := 2000000) only [↓ S2, S2, vIte, ↓reduceIte, Int.reduceNe, Nat.reduceEqDiff, reduceCtorEq, Nat.reduceLeDiff, Nat.reduceAdd, Nat.reduceLT]
    ((try with_reducible refine mkQI ?_); (repeat ((first | (with_reducible refine mkQU ?_) | simp only [brGen]); try simp (maxSteps := 2000000) only [↓ S2, S2, vIte, ↓reduceIte, Int.reduceNe, Nat.reduceEqDiff, reduceCtorEq, Nat.reduceLeDiff, Nat.reduceAdd, Nat.reduceLT])); (try simp +contextual (disch := omega) only [Z2]); (repeat' (first | (with_reducible intro h) | (with_reducible refine And.intro (by omega) ?_) | (with_reducible refine exP (by omega) ?_) | (with_reducible apply And.intro))))
    all_goals first | rfl | (exfalso; omega)
  | succ f ih =>
    intro i p q s hf
    refine gstart mxd i264 rfl (by simp) ?_; simp (maxSteps := 2000000) only [↓ S2, S2, vIte, ↓reduceIte, Int.reduceNe, Nat.reduceEqDiff, reduceCtorEq, Nat.reduceLeDiff, Nat.reduceAdd, Nat.reduceLT]
    by_cases hi : i < t.length
    rotate_left
    · rw [walkE_out (by omega)]
      ((try with_reducible refine mkQI ?_); (repeat ((first | (with_reducible refine mkQU ?_) | simp only [brGen]); try simp (maxSteps := 2000000) only [↓ S2, S2, vIte, ↓reduceIte, Int.reduceNe, Nat.reduceEqDiff, reduceCtorEq, Nat.reduceLeDiff, Nat.reduceAdd, Nat.reduceLT])); (try simp +contextual (disch := omega) only [Z2]); (repeat' (first | (with_reducible intro h) | (with_reducible refine And.intro (by omega) ?_) | (with_reducible refine exP (by omega) ?_) | (with_reducible apply And.intro))))
      all_goals first | rfl | (exfalso; omega)
    have hw : walkE g t (f + 1) i p q s = if fitV g t[i] p q s then kidsW (walkE g t f) i t[i].kids (fRul g.rules t[i].rule).right 0 (i + 1) else -1 := by simp only [walkE, if_pos hi, getD_lt hi]
    have hkk := hk _ (List.getElem_mem hi)
    have hr := smRu_f hg t[i].rule
    have hrr := hr.1
    rw [hw]
    by_cases hv : fitV g t[i] p q s = true
    · rw [if_pos hv]
      obtain ⟨h1, h2, h3, h4, h5, h6, h7⟩ := fitV_iff.1 hv
      subst h2 h3 h4
      clear hw hv
      have hR : ∃ R, fRul g.rules t[i].rule = R := ⟨_, rfl⟩
      obtain ⟨R, hR⟩ := hR
      rw [hR] at hr hrr h5 h7 ⊢
      have main : ∀ (Q : Exit → Env → GH → Prop), True := fun _ => trivial
      rcases h7 with h7 | h7
      · (repeat' (first | (with_reducible refine callS.eq (w110 _ _ hg) ?_) | (with_reducible refine callS.eq (w70 _ _ _) ?_) | simp (maxSteps := 2000000) only [↓ S2, S2, vIte, ↓reduceIte, Int.reduceNe, Nat.reduceEqDiff, reduceCtorEq, Nat.reduceLeDiff, Nat.reduceAdd, Nat.reduceLT, h1, h5, eq_true h6, h7, hR] | simp only [brGen] | simp +contextual (disch := omega) only [Z2] | (with_reducible intro h) | (with_reducible refine And.intro (by omega) ?_) | (with_reducible refine exP (by omega) ?_) | (with_reducible apply And.intro)))
        all_goals try (exfalso; omega)
        have hVV : ∃ V, kidsW (walkE g t f) i t[i].kids R.right 0 (i + 1) = V := ⟨_, rfl⟩
        obtain ⟨V, hVV⟩ := hVV
        rw [hVV]
        refine wloop mxd (ι := { x : Nat × Int // x.1 ≤ R.right.length ∧ (i : Int) < x.2 ∧ x.2 ≤ t.length ∧ kidsW (walkE g t f) i (t[i].kids.drop x.1) (R.right.drop x.1) x.1 x.2 = V }) (fun x => [(2, I i), (6, .rop 2 (Gr g)), (7, .rop 1 (Tr t)), (14, .rop 6 (Ru R)), (16, I x.1.2), (84, IS t[i].kids), (85, I R.right.length), (86, I x.1.1)]) (fun _ => []) (fun x => R.right.length - x.1.1) ⟨(0, i + 1), by simp, by simp; omega, by simp; omega, by simpa using hVV⟩ (by simp [E2, h7]) rfl ?_
        rintro ⟨⟨k, a⟩, hk1, ha1, ha2, hV⟩
        dsimp only at hk1 ha1 ha2 hV ⊢
        rcases Nat.lt_or_ge k R.right.length with hlt | hge
        · rw [kidsW_step (by omega) hlt] at hV
          by_cases hc : t[i].kids[k] = a
          · rw [if_neg (by simpa using hc)] at hV
            obtain ⟨m, rfl⟩ : ∃ m : Nat, a = m := ⟨a.toNat, by omega⟩
            have hm := walkE_ge (g := g) (t := t) f m i ((k : Int) + 1) R.right[k]
            simp only [Int.toNat_natCast] at hV
            (repeat' (first | (with_reducible refine callS.eq (ih m _ _ _ (by omega)) ?_) | simp (maxSteps := 2000000) only [↓ S2, S2, vIte, ↓reduceIte, Int.reduceNe, Nat.reduceEqDiff, reduceCtorEq, Nat.reduceLeDiff, Nat.reduceAdd, Nat.reduceLT, h5, hc] | simp only [brGen] | simp +contextual (disch := omega) only [Z2] | (with_reducible intro h) | (with_reducible refine And.intro (by omega) ?_) | (with_reducible refine exP (by omega) ?_) | (with_reducible apply And.intro)))
            all_goals try (exfalso; omega)
            · rw [if_pos (by assumption)] at hV; rw [← hV]
            · rw [if_neg (by assumption)] at hV
              exact nx ⟨(k + 1, walkE g t f m i ((k : Int) + 1) R.right[k]), by omega, by dsimp only; omega, by dsimp only; omega, hV⟩ (by simp; omega) (by simp [E2]) rfl
          · rw [if_pos (by simpa using hc)] at hV
            (repeat' (first | (with_reducible refine callS.eq (ih _ _ _ _ (by omega)) ?_) | simp (maxSteps := 2000000) only [↓ S2, S2, vIte, ↓reduceIte, Int.reduceNe, Nat.reduceEqDiff, reduceCtorEq, Nat.reduceLeDiff, Nat.reduceAdd, Nat.reduceLT, h5, hc] | simp only [brGen] | simp +contextual (disch := omega) only [Z2] | (with_reducible intro h) | (with_reducible refine And.intro (by omega) ?_) | (with_reducible refine exP (by omega) ?_) | (with_reducible apply And.intro)))
            all_goals first | (rw [← hV]; done) | (exfalso; omega)
        · rw [kidsW_end (by omega)] at hV
          ((try with_reducible refine mkQI ?_); (repeat ((first | (with_reducible refine mkQU ?_) | simp only [brGen]); try simp (maxSteps := 2000000) only [↓ S2, S2, vIte, ↓reduceIte, Int.reduceNe, Nat.reduceEqDiff, reduceCtorEq, Nat.reduceLeDiff, Nat.reduceAdd, Nat.reduceLT])); (try simp +contextual (disch := omega) only [Z2]); (repeat' (first | (with_reducible intro h) | (with_reducible refine And.intro (by omega) ?_) | (with_reducible refine exP (by omega) ?_) | (with_reducible apply And.intro))))
          all_goals first | (rw [← hV]; done) | (exfalso; omega)
      · (repeat' (first | (with_reducible refine callS.eq (w110 _ _ hg) ?_) | (with_reducible refine callS.eq (w70 _ _ _) ?_) | simp (maxSteps := 2000000) only [↓ S2, S2, vIte, ↓reduceIte, Int.reduceNe, Nat.reduceEqDiff, reduceCtorEq, Nat.reduceLeDiff, Nat.reduceAdd, Nat.reduceLT, h1, h5, eq_true h6, h7.1, eq_true h7.2, hR] | simp only [brGen] | simp +contextual (disch := omega) only [Z2] | (with_reducible intro h) | (with_reducible refine And.intro (by omega) ?_) | (with_reducible refine exP (by omega) ?_) | (with_reducible apply And.intro)))
        all_goals try (exfalso; omega)
        have hVV : ∃ V, kidsW (walkE g t f) i t[i].kids R.right 0 (i + 1) = V := ⟨_, rfl⟩
        obtain ⟨V, hVV⟩ := hVV
        rw [hVV]
        refine wloop mxd (ι := { x : Nat × Int // x.1 ≤ R.right.length ∧ (i : Int) < x.2 ∧ x.2 ≤ t.length ∧ kidsW (walkE g t f) i (t[i].kids.drop x.1) (R.right.drop x.1) x.1 x.2 = V }) (fun x => [(2, I i), (6, .rop 2 (Gr g)), (7, .rop 1 (Tr t)), (14, .rop 6 (Ru R)), (16, I x.1.2), (84, IS t[i].kids), (85, I R.right.length), (86, I x.1.1)]) (fun _ => []) (fun x => R.right.length - x.1.1) ⟨(0, i + 1), by simp, by simp; omega, by simp; omega, by simpa using hVV⟩ (by simp [E2, h7]) rfl ?_
        rintro ⟨⟨k, a⟩, hk1, ha1, ha2, hV⟩
        dsimp only at hk1 ha1 ha2 hV ⊢
        rcases Nat.lt_or_ge k R.right.length with hlt | hge
        · rw [kidsW_step (by omega) hlt] at hV
          by_cases hc : t[i].kids[k] = a
          · rw [if_neg (by simpa using hc)] at hV
            obtain ⟨m, rfl⟩ : ∃ m : Nat, a = m := ⟨a.toNat, by omega⟩
            have hm := walkE_ge (g := g) (t := t) f m i ((k : Int) + 1) R.right[k]
            simp only [Int.toNat_natCast] at hV
            (repeat' (first | (with_reducible refine callS.eq (ih m _ _ _ (by omega)) ?_) | simp (maxSteps := 2000000) only [↓ S2, S2, vIte, ↓reduceIte, Int.reduceNe, Nat.reduceEqDiff, reduceCtorEq, Nat.reduceLeDiff, Nat.reduceAdd, Nat.reduceLT, h5, hc] | simp only [brGen] | simp +contextual (disch := omega) only [Z2] | (with_reducible intro h) | (with_reducible refine And.intro (by omega) ?_) | (with_reducible refine exP (by omega) ?_) | (with_reducible apply And.intro)))
            all_goals try (exfalso; omega)
            · rw [if_pos (by assumption)] at hV; rw [← hV]
            · rw [if_neg (by assumption)] at hV
              exact nx ⟨(k + 1, walkE g t f m i ((k : Int) + 1) R.right[k]), by omega, by dsimp only; omega, by dsimp only; omega, hV⟩ (by simp; omega) (by simp [E2]) rfl
          · rw [if_pos (by simpa using hc)] at hV
            (repeat' (first | (with_reducible refine callS.eq (ih _ _ _ _ (by omega)) ?_) | simp (maxSteps := 2000000) only [↓ S2, S2, vIte, ↓reduceIte, Int.reduceNe, Nat.reduceEqDiff, reduceCtorEq, Nat.reduceLeDiff, Nat.reduceAdd, Nat.reduceLT, h5, hc] | simp only [brGen] | simp +contextual (disch := omega) only [Z2] | (with_reducible intro h) | (with_reducible refine And.intro (by omega) ?_) | (with_reducible refine exP (by omega) ?_) | (with_reducible apply And.intro)))
            all_goals first | (rw [← hV]; done) | (exfalso; omega)
        · rw [kidsW_end (by omega)] at hV
          ((try with_reducible refine mkQI ?_); (repeat ((first | (with_reducible refine mkQU ?_) | simp only [brGen]); try simp (maxSteps := 2000000) only [↓ S2, S2, vIte, ↓reduceIte, Int.reduceNe, Nat.reduceEqDiff, reduceCtorEq, Nat.reduceLeDiff, Nat.reduceAdd, Nat.reduceLT])); (try simp +contextual (disch := omega) only [Z2]); (repeat' (first | (with_reducible intro h) | (with_reducible refine And.intro (by omega) ?_) | (with_reducible refine exP (by omega) ?_) | (with_reducible apply And.intro))))
          all_goals first | (rw [← hV]; done) | (exfalso; omega)
    · rw [if_neg hv]
      rw [fitV_iff] at hv
      (repeat' (first | (with_reducible refine callS.eq (w110 _ _ hg) ?_) | (with_reducible refine callS.eq (w70 _ _ _) ?_) | simp (maxSteps := 2000000) only [↓ S2, S2, vIte, ↓reduceIte, Int.reduceNe, Nat.reduceEqDiff, reduceCtorEq, Nat.reduceLeDiff, Nat.reduceAdd, Nat.reduceLT] | simp only [brGen] | simp +contextual (disch := omega) only [Z2] | (with_reducible intro h) | (with_reducible refine And.intro (by omega) ?_) | (with_reducible refine exP (by omega) ?_) | (with_reducible apply And.intro)))
      all_goals try rfl
      all_goals (exfalso; apply hv; simp_all only [okV1, decide_eq_true_eq, decide_eq_false_iff_not, true_and, and_true, or_true, true_or, not_true_eq_false, not_false_eq_true]; done)
end Go.Proofs.YtkepdhkomchlgaaGreat

namespace Go.Proofs.YtkepdhkomchlgaaGreat
open Go.Gh
set_option maxRecDepth 20000
set_option linter.unusedSimpArgs false
set_option linter.unusedVariables false
theorem w124 (l : List Int) (x : Int) : Pure Tryz.prog 124 [IS l, I x] (· = B (hasI l x)) := by
  refine GCalls.lenA fun hl => ?_
  have hlen := hl.1.1
  simp only [List.length_map, maxL] at hlen
  refine gstart mxd i124 rfl (by simp) ?_; simp (maxSteps := 2000000) only [↓ S2, S2, vIte, ↓reduceIte, Int.reduceNe, Nat.reduceEqDiff, reduceCtorEq, Nat.reduceLeDiff, Nat.reduceAdd, Nat.reduceLT]
  refine wloop mxd (ι := { i : Nat // i ≤ l.length ∧ ∀ y ∈ l.take i, decide (y = x) = false }) (fun i => [(0, IS l), (1, I x), (5, I i.1)]) (fun _ => []) (fun i => l.length - i.1) ⟨0, by simp⟩ (by simp [E2]) rfl ?_
  rintro ⟨i, hi, hn⟩
  ((try with_reducible refine mkQI ?_); (repeat ((first | (with_reducible refine mkQU ?_) | simp only [brGen]); try simp (maxSteps := 2000000) only [↓ S2, S2, vIte, ↓reduceIte, Int.reduceNe, Nat.reduceEqDiff, reduceCtorEq, Nat.reduceLeDiff, Nat.reduceAdd, Nat.reduceLT])); (try simp +contextual (disch := omega) only [Z2]); (repeat' (first | (with_reducible intro h) | (with_reducible refine And.intro (by omega) ?_) | (with_reducible refine exP (by omega) ?_) | (with_reducible apply And.intro))))
  · rw [hasI_hit (by assumption) h]
  · exact nx ⟨i + 1, by omega, take_step (by assumption) (by simpa using h) hn⟩ (by simp; omega) (by simp [E2]) rfl
  · have : i = l.length := by omega
    subst this
    rw [List.take_of_length_le (Nat.le_refl _)] at hn
    rw [hasI_none hn]
theorem w197 (t : List Nod) (hl : t.length ≤ 1048576) : Pure Tryz.prog 197 [Tr t] (· = B (idsV t && decide (1 ≤ t.length ∧ t.length ≤ 16))) := by
  refine Pure.bor ?_
  refine gstart mxd i197 rfl (by simp) ?_; simp (maxSteps := 2000000) only [↓ S2, S2, vIte, ↓reduceIte, Int.reduceNe, Nat.reduceEqDiff, reduceCtorEq, Nat.reduceLeDiff, Nat.reduceAdd, Nat.reduceLT]
  ((try with_reducible refine mkQI ?_); (repeat ((first | (with_reducible refine mkQU ?_) | simp only [brGen]); try simp (maxSteps := 2000000) only [↓ S2, S2, vIte, ↓reduceIte, Int.reduceNe, Nat.reduceEqDiff, reduceCtorEq, Nat.reduceLeDiff, Nat.reduceAdd, Nat.reduceLT])); (try simp +contextual (disch := omega) only [Z2]); (repeat' (first | (with_reducible intro h) | (with_reducible refine And.intro (by omega) ?_) | (with_reducible refine exP (by omega) ?_) | (with_reducible apply And.intro))))
  rename_i r
  refine ploop mxd (ι := { x : Nat × Nat // x.2 ≤ t.length ∧ ∀ j, j < x.2 → gid t j = true }) (fun x => [(1, .rop 1 (Tr t)), (3, .own x.1.1 1 0 x.1.2), (4, I x.1.2)]) (fun x => [(x.1.1, 1, ((t.take x.1.2).map (·.id)).map I)]) (fun x => t.length - x.1.2) ⟨(r, 0), by simp⟩ (by simp [E2]) (by simp [subH, hget, names]) ?_
  rintro ⟨⟨r, i⟩, hi, hn⟩ -
  dsimp only at hi hn ⊢
  rcases Nat.lt_or_ge i t.length with hlt | hge
  · (repeat' (first | (with_reducible refine callS.eq (w67 _ _ _) ?_) | simp (maxSteps := 2000000) only [↓ S2, S2, vIte, ↓reduceIte, Int.reduceNe, Nat.reduceEqDiff, reduceCtorEq, Nat.reduceLeDiff, Nat.reduceAdd, Nat.reduceLT] | simp only [brGen] | simp +contextual (disch := omega) only [Z2] | (with_reducible intro h) | (with_reducible refine And.intro (by omega) ?_) | (with_reducible refine exP (by omega) ?_) | (with_reducible apply And.intro)))
    all_goals try (exfalso; omega)
    · refine callS.borA (w124 ((t.take i).map (·.id)) t[i].id) (.cons (bor_IS hget_new (by simp; omega)) (.cons .refl .nil)) rfl ?_
      ((try with_reducible refine mkQI ?_); (repeat ((first | (with_reducible refine mkQU ?_) | simp only [brGen]); try simp (maxSteps := 2000000) only [↓ S2, S2, vIte, ↓reduceIte, Int.reduceNe, Nat.reduceEqDiff, reduceCtorEq, Nat.reduceLeDiff, Nat.reduceAdd, Nat.reduceLT])); (try simp +contextual (disch := omega) only [Z2]); (repeat' (first | (with_reducible intro h) | (with_reducible refine And.intro (by omega) ?_) | (with_reducible refine exP (by omega) ?_) | (with_reducible apply And.intro))))
      · rw [hasI_map] at h
        rw [idsV_bad hlt (gid_f2 hlt h)]
        exact .refl
      · rename_i q2
        have h2 := neH_of h
        (replace h2 := h2; simp only [neH_cons, neH_nil, neA_cons, neA_nil, and_true, true_and] at h2)
        ((try with_reducible refine mkQI ?_); (repeat ((first | (with_reducible refine mkQU ?_) | simp only [brGen]); try simp (maxSteps := 2000000) only [↓ S2, S2, vIte, ↓reduceIte, Int.reduceNe, Nat.reduceEqDiff, reduceCtorEq, Nat.reduceLeDiff, Nat.reduceAdd, Nat.reduceLT, hget_c, hset_c, hdel_c, h2, t_ldf])); (try simp +contextual (disch := omega) only [Z2, hget_c, hset_c, hdel_c, h2, t_ldf]); (repeat' (first | (with_reducible intro h) | (with_reducible refine And.intro (by omega) ?_) | (with_reducible refine exP (by omega) ?_) | (with_reducible apply And.intro))))
        · simp; omega
        rename_i hh _ _ _ q3
        have h3 := neH_of h
        (replace h3 := h3; simp only [neH_cons, neH_nil, neA_cons, neA_nil, and_true, true_and] at h3)
        rw [takeApp2 I (·.id) t i hlt]
        refine px ⟨(q3, i + 1), by omega, fun j hj => ?_⟩ (by simp; omega) (by simp [E2]) (by simp [subH, hget, names, h3])
        rcases Nat.lt_or_ge j i with hji | hji
        · exact hn j hji
        · have : j = i := by omega
          subst this
          exact gid_t hlt (by assumption) (by rw [← hasI_map]; assumption)
    · rw [idsV_bad hlt (gid_f1 hlt (by assumption))]
      exact .refl
  · have : i = t.length := by omega
    subst this
    (repeat' (first | (with_reducible refine callS.eq (w67 _ _ _) ?_) | simp (maxSteps := 2000000) only [↓ S2, S2, vIte, ↓reduceIte, Int.reduceNe, Nat.reduceEqDiff, reduceCtorEq, Nat.reduceLeDiff, Nat.reduceAdd, Nat.reduceLT] | simp only [brGen] | simp +contextual (disch := omega) only [Z2] | (with_reducible intro h) | (with_reducible refine And.intro (by omega) ?_) | (with_reducible refine exP (by omega) ?_) | (with_reducible apply And.intro)))
    have e : B (decide (1 ≤ (t.length : Int) ∧ (t.length : Int) ≤ 16)) = B (idsV t && decide (1 ≤ t.length ∧ t.length ≤ 16)) := by rw [idsV_ok hn, Bool.true_and]; exact bEq (by omega)
    rw [← e]
    exact .refl
theorem w263 (x y : Nod) : Pure Tryz.prog 263 [Nd x, .rop 6 (Nd y)] (· = B (decide (x.id = y.id))) := by
  refine gstart mxd i263 rfl (by simp) ?_; simp (maxSteps := 2000000) only [↓ S2, S2, vIte, ↓reduceIte, Int.reduceNe, Nat.reduceEqDiff, reduceCtorEq, Nat.reduceLeDiff, Nat.reduceAdd, Nat.reduceLT]
  try ((try with_reducible refine mkQI ?_); (repeat ((first | (with_reducible refine mkQU ?_) | simp only [brGen]); try simp (maxSteps := 2000000) only [↓ S2, S2, vIte, ↓reduceIte, Int.reduceNe, Nat.reduceEqDiff, reduceCtorEq, Nat.reduceLeDiff, Nat.reduceAdd, Nat.reduceLT])); (try simp +contextual (disch := omega) only [Z2]); (repeat' (first | (with_reducible intro h) | (with_reducible refine And.intro (by omega) ?_) | (with_reducible refine exP (by omega) ?_) | (with_reducible apply And.intro))))
theorem w262 (t : List Nod) (f : Nat) (cs : List GV) (p : Nod → Bool) (hp : ∀ x ∈ t, Pure Tryz.prog f (Nd x :: cs) (· = B (p x))) :
    Pure Tryz.prog 262 [NdS t, .clo f cs] (· = B (t.any p)) := by
  refine gstart mxd i262 rfl (by simp) ?_; simp (maxSteps := 2000000) only [↓ S2, S2, vIte, ↓reduceIte, Int.reduceNe, Nat.reduceEqDiff, reduceCtorEq, Nat.reduceLeDiff, Nat.reduceAdd, Nat.reduceLT]
  refine callS.eq (w183 t f cs p hp) ?_
  ((try with_reducible refine mkQI ?_); (repeat ((first | (with_reducible refine mkQU ?_) | simp only [brGen]); try simp (maxSteps := 2000000) only [↓ S2, S2, vIte, ↓reduceIte, Int.reduceNe, Nat.reduceEqDiff, reduceCtorEq, Nat.reduceLeDiff, Nat.reduceAdd, Nat.reduceLT])); (try simp +contextual (disch := omega) only [Z2]); (repeat' (first | (with_reducible intro h) | (with_reducible refine And.intro (by omega) ?_) | (with_reducible refine exP (by omega) ?_) | (with_reducible apply And.intro))))
  rw [← any_ix]
theorem w200 (g : Gram) (t : List Nod) (s : ByteArray) (hg : smGr g) (hl : t.length ≤ 1048576) (hk : ∀ x ∈ t, x.kids.length ≤ 1048576) : Pure Tryz.prog 200 [Gr g, Tr t, T s] (· = B (treeOf g t s)) := by
  refine gstart mxd i200 rfl (by simp) ?_; simp (maxSteps := 2000000) only [↓ S2, S2, vIte, ↓reduceIte, Int.reduceNe, Nat.reduceEqDiff, reduceCtorEq, Nat.reduceLeDiff, Nat.reduceAdd, Nat.reduceLT]
  refine callS.eq (w70 _ _ _) ?_
  ((try with_reducible refine mkQI ?_); (repeat ((first | (with_reducible refine mkQU ?_) | simp only [brGen]); try simp (maxSteps := 2000000) only [↓ S2, S2, vIte, ↓reduceIte, Int.reduceNe, Nat.reduceEqDiff, reduceCtorEq, Nat.reduceLeDiff, Nat.reduceAdd, Nat.reduceLT])); (try simp +contextual (disch := omega) only [Z2]); (repeat' (first | (with_reducible intro h) | (with_reducible refine And.intro (by omega) ?_) | (with_reducible refine exP (by omega) ?_) | (with_reducible apply And.intro))))
  rotate_left
  · simp only [treeOf]; rw [decide_eq_false (by omega)]; rfl
  refine wloop mxd (ι := { i : Nat // i ≤ t.length ∧ ∀ j, j < i → gid t j = true }) (fun i => [(2, T s), (3, .rop 2 (Gr g)), (4, .rop 1 (Tr t)), (15, NdS t), (16, I t.length), (17, I i.1)]) (fun _ => []) (fun i => t.length - i.1) ⟨0, by simp⟩ (by simp [E2]) rfl ?_
  rintro ⟨i, hi, hn⟩
  rcases Nat.lt_or_ge i t.length with hlt | hge
  · (repeat' (first | (with_reducible refine callS.eq (w70 _ _ _) ?_) | simp (maxSteps := 2000000) only [↓ S2, S2, vIte, ↓reduceIte, Int.reduceNe, Nat.reduceEqDiff, reduceCtorEq, Nat.reduceLeDiff, Nat.reduceAdd, Nat.reduceLT] | simp only [brGen] | simp +contextual (disch := omega) only [Z2] | (with_reducible intro h) | (with_reducible refine And.intro (by omega) ?_) | (with_reducible refine exP (by omega) ?_) | (with_reducible apply And.intro)))
    all_goals try (exfalso; omega)
    · rw [show List.drop (Int.toNat 0) (List.take i (List.map Nd t)) = (t.take i).map Nd from by simp [List.map_take]]
      refine callS.eq (w262 (t.take i) _ _ (fun y => decide (y.id = t[i].id)) fun x _ => w263 x t[i]) ?_
      ((try with_reducible refine mkQI ?_); (repeat ((first | (with_reducible refine mkQU ?_) | simp only [brGen]); try simp (maxSteps := 2000000) only [↓ S2, S2, vIte, ↓reduceIte, Int.reduceNe, Nat.reduceEqDiff, reduceCtorEq, Nat.reduceLeDiff, Nat.reduceAdd, Nat.reduceLT])); (try simp +contextual (disch := omega) only [Z2]); (repeat' (first | (with_reducible intro h) | (with_reducible refine And.intro (by omega) ?_) | (with_reducible refine exP (by omega) ?_) | (with_reducible apply And.intro))))
      · rw [treeOf_bad (idsV_bad hlt (gid_f2 hlt h))]
      · refine nx ⟨i + 1, by omega, fun j hj => ?_⟩ (by simp; omega) (by simp [E2]) rfl
        rcases Nat.lt_or_ge j i with hji | hji
        · exact hn j hji
        · have : j = i := by omega
          subst this
          exact gid_t hlt (by assumption) h
    · rw [treeOf_bad (idsV_bad hlt (gid_f1 hlt (by assumption)))]
  · have : i = t.length := by omega
    subst this
    have hw := w264 g t hg hl hk t.length 0 (-1) 0 s (by omega)
    simp only [Int.natCast_zero] at hw
    (repeat' (first | (with_reducible refine callS.eq (hw) ?_) | simp (maxSteps := 2000000) only [↓ S2, S2, vIte, ↓reduceIte, Int.reduceNe, Nat.reduceEqDiff, reduceCtorEq, Nat.reduceLeDiff, Nat.reduceAdd, Nat.reduceLT] | simp only [brGen] | simp +contextual (disch := omega) only [Z2] | (with_reducible intro h) | (with_reducible refine And.intro (by omega) ?_) | (with_reducible refine exP (by omega) ?_) | (with_reducible apply And.intro)))
    simp only [treeOf, idsV_ok hn, Bool.true_and]
    rw [decide_eq_true (show 1 ≤ t.length ∧ t.length ≤ 16 by omega), Bool.true_and]
theorem w128 (g : Gram) (t : List Nod) (s : ByteArray) (hg : smGr g) (hl : t.length ≤ 1048576) (hk : ∀ x ∈ t, x.kids.length ≤ 1048576) : Pure Tryz.prog 128 [Gr g, Tr t, T s] (· = B (treeOf g t s)) := by
  have hw := w198 g t hg hl hk t.length 0 (-1) 0 s (by omega)
  simp only [Int.natCast_zero] at hw
  refine gstart mxd i128 rfl (by simp) ?_; simp (maxSteps := 2000000) only [↓ S2, S2, vIte, ↓reduceIte, Int.reduceNe, Nat.reduceEqDiff, reduceCtorEq, Nat.reduceLeDiff, Nat.reduceAdd, Nat.reduceLT]
  (repeat' (first | (with_reducible refine callS.eq (w197 t hl) ?_) | (with_reducible refine callS.eq (hw) ?_) | simp (maxSteps := 2000000) only [↓ S2, S2, vIte, ↓reduceIte, Int.reduceNe, Nat.reduceEqDiff, reduceCtorEq, Nat.reduceLeDiff, Nat.reduceAdd, Nat.reduceLT] | simp only [brGen] | simp +contextual (disch := omega) only [Z2] | (with_reducible intro h) | (with_reducible refine And.intro (by omega) ?_) | (with_reducible refine exP (by omega) ?_) | (with_reducible apply And.intro)))
  all_goals first | (simp_all [treeOf]; done) | (simp_all [treeOf]; intros; omega)
end Go.Proofs.YtkepdhkomchlgaaGreat

