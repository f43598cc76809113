/- The law FnExactCheckGrammar returns true whatever the input, and the input reads behind the call as before. No condition. -/
import Derived.Test.YtbdmpkidcpblaaaGreatCcg1
namespace Go.Proofs.YtbdmpkidcpblaaaGreat
open Go.Gh
set_option maxRecDepth 20000
set_option linter.unusedSimpArgs false
set_option linter.unusedVariables false
theorem w244 : ∀ (e : Exp), okE e → ∀ left : Int, 0 ≤ left → left ≤ 1048576 → Pure Tryz.prog 244 [Ex e, I left] (· = I (szv left (wEx e))) := by
  refine Exp.indA fun e ih ho left h0 h1 => ?_
  obtain ⟨hs, hm, ha⟩ := okE_eq.1 ho
  simp only [maxLen, size_chars] at hs hm
  rw [Ex_eq]
  refine gstart mxd i244 rfl (by simp) ?_; simp (maxSteps := 2000000) only [↓ S2, S2, vIte, ↓reduceIte, Int.reduceNe, Nat.reduceEqDiff, reduceCtorEq, Nat.reduceLeDiff, Nat.reduceAdd, Nat.reduceLT]
  ((try with_reducible refine mkQI ?_); (repeat ((first | (with_reducible refine mkQU ?_) | simp only [brGen]); try simp (maxSteps := 2000000) only [↓ S2, S2, vIte, ↓reduceIte, Int.reduceNe, Nat.reduceEqDiff, reduceCtorEq, Nat.reduceLeDiff, Nat.reduceAdd, Nat.reduceLT])); (try simp +contextual (disch := omega) only [Z2]); (repeat' (first | (with_reducible intro h) | (with_reducible refine And.intro (by omega) ?_) | (with_reducible refine exP (by omega) ?_) | (with_reducible apply And.intro))))
  · congr 2; rw [wEx_eq]; simp only [szv]; omega
  · congr 2; rw [wEx_eq]; simp only [szv]; omega
  refine callS.eq (szS mxd wEx i279 isAgg_Ex geR_Ex e.args _ (by omega) (by omega) fun a ham l a0 a1 => ih a ham (ha a ham) l a0 a1) ?_
  ((try with_reducible refine mkQI ?_); (repeat ((first | (with_reducible refine mkQU ?_) | simp only [brGen]); try simp (maxSteps := 2000000) only [↓ S2, S2, vIte, ↓reduceIte, Int.reduceNe, Nat.reduceEqDiff, reduceCtorEq, Nat.reduceLeDiff, Nat.reduceAdd, Nat.reduceLT])); (try simp +contextual (disch := omega) only [Z2]); (repeat' (first | (with_reducible intro h) | (with_reducible refine And.intro (by omega) ?_) | (with_reducible refine exP (by omega) ?_) | (with_reducible apply And.intro)))) <;> (congr 2; rw [wEx_eq]; simp only [szv] at *; omega)
theorem w247 : ∀ (e : Exp), wEx e ≤ 1048576 → Pure Tryz.prog 247 [Ex e] (· = Ex e) := by
  refine Exp.indA fun e ih hw => ?_
  obtain ⟨hl, ha⟩ := args_small hw
  rw [Ex_eq]
  refine gstart mxd i247 rfl (by simp) ?_; simp (maxSteps := 2000000) only [↓ S2, S2, vIte, ↓reduceIte, Int.reduceNe, Nat.reduceEqDiff, reduceCtorEq, Nat.reduceLeDiff, Nat.reduceAdd, Nat.reduceLT]
  intro r hr
  refine callS.eq (freezeS view_Ex fun H => toSo mxd i281 isAgg_Ex geR_Ex gsize_Ex stor_Ex e.args hl (by decide) (fun a ham => ih a ham (ha a ham)) H) ?_
  ((try with_reducible refine mkQI ?_); (repeat ((first | (with_reducible refine mkQU ?_) | simp only [brGen]); try simp (maxSteps := 2000000) only [↓ S2, S2, vIte, ↓reduceIte, Int.reduceNe, Nat.reduceEqDiff, reduceCtorEq, Nat.reduceLeDiff, Nat.reduceAdd, Nat.reduceLT])); (try simp +contextual (disch := omega) only [Z2]); (repeat' (first | (with_reducible intro h) | (with_reducible refine And.intro (by omega) ?_) | (with_reducible refine exP (by omega) ?_) | (with_reducible apply And.intro))))
theorem w260 : ∀ (x y : Exp), Pure Tryz.prog 260 [Ex x, Ex y] (· = B (decide (x = y))) := by
  refine Exp.indA fun x ih y => ?_
  rw [Ex_eq, Ex_eq y]
  refine gstart mxd i260 rfl (by simp) ?_; simp (maxSteps := 2000000) only [↓ S2, S2, vIte, ↓reduceIte, Int.reduceNe, Nat.reduceEqDiff, reduceCtorEq, Nat.reduceLeDiff, Nat.reduceAdd, Nat.reduceLT]
  ((try with_reducible refine mkQI ?_); (repeat ((first | (with_reducible refine mkQU ?_) | simp only [brGen]); try simp (maxSteps := 2000000) only [↓ S2, S2, vIte, ↓reduceIte, Int.reduceNe, Nat.reduceEqDiff, reduceCtorEq, Nat.reduceLeDiff, Nat.reduceAdd, Nat.reduceLT])); (try simp +contextual (disch := omega) only [Z2]); (repeat' (first | (with_reducible intro h) | (with_reducible refine And.intro (by omega) ?_) | (with_reducible refine exP (by omega) ?_) | (with_reducible apply And.intro))))
  all_goals first
    | (simp [Exp.ext_iff, *]; done)
    | skip
  refine callS.eq (eqS mxd i294 isAgg_Ex geR_Ex x.args y.args fun a ha b _ => ih a ha b) ?_
  ((try with_reducible refine mkQI ?_); (repeat ((first | (with_reducible refine mkQU ?_) | simp only [brGen]); try simp (maxSteps := 2000000) only [↓ S2, S2, vIte, ↓reduceIte, Int.reduceNe, Nat.reduceEqDiff, reduceCtorEq, Nat.reduceLeDiff, Nat.reduceAdd, Nat.reduceLT])); (try simp +contextual (disch := omega) only [Z2]); (repeat' (first | (with_reducible intro h) | (with_reducible refine And.intro (by omega) ?_) | (with_reducible refine exP (by omega) ?_) | (with_reducible apply And.intro)))) <;> simp [Exp.ext_iff, *]
end Go.Proofs.YtbdmpkidcpblaaaGreat

namespace Go.Proofs.YtbdmpkidcpblaaaGreat
open Go.Gh
set_option maxRecDepth 20000
set_option linter.unusedSimpArgs false
set_option linter.unusedVariables false
theorem w124 (xs : List ByteArray) (left : Int) (h0 : 0 ≤ left) (h1 : left ≤ 1048576) (hx : ∀ x ∈ xs, x.size ≤ maxLen) : Pure Tryz.prog 124 [TS xs, I left] (· = I (szv left (wtS wT xs))) := by
  refine GCalls.lenA fun hl => ?_
  have hlen := hl.1.1
  simp only [List.length_map, maxL] at hlen
  refine gstart mxd i124 rfl (by simp) ?_; simp (maxSteps := 2000000) only [↓ S2, S2, vIte, ↓reduceIte, Int.reduceNe, Nat.reduceEqDiff, reduceCtorEq, Nat.reduceLeDiff, Nat.reduceAdd, Nat.reduceLT]
  ((try with_reducible refine mkQI ?_); (repeat ((first | (with_reducible refine mkQU ?_) | simp only [brGen]); try simp (maxSteps := 2000000) only [↓ S2, S2, vIte, ↓reduceIte, Int.reduceNe, Nat.reduceEqDiff, reduceCtorEq, Nat.reduceLeDiff, Nat.reduceAdd, Nat.reduceLT])); (try simp +contextual (disch := omega) only [Z2]); (repeat' (first | (with_reducible intro h) | (with_reducible refine And.intro (by omega) ?_) | (with_reducible refine exP (by omega) ?_) | (with_reducible apply And.intro))))
  · congr 2; simp only [szv, wtS]; omega
  refine wloop mxd (ι := { i : Nat // i ≤ xs.length ∧ ((xs.length + psum wT xs i : Nat) : Int) ≤ left }) (fun i => [(0, TS xs), (1, I (left - ((xs.length + psum wT xs i.1 : Nat) : Int))), (5, I i.1)]) (fun _ => []) (fun i => xs.length - i.1) ⟨0, by simp [psum_zero]; omega⟩ (by simp [E2, psum_zero]) rfl ?_
  rintro ⟨i, hi, hp⟩
  simp (maxSteps := 2000000) only [↓ S2, S2, vIte, ↓reduceIte, Int.reduceNe, Nat.reduceEqDiff, reduceCtorEq, Nat.reduceLeDiff, Nat.reduceAdd, Nat.reduceLT]
  rcases Nat.lt_or_ge i xs.length with h | h
  · have e1 := psum_succ wT xs i h
    have e2 := psum_le wT xs (i + 1)
    have e3 := hx _ (List.getElem_mem h)
    have hz := size_chars xs[i]
    simp only [maxLen, size_chars] at e3
    simp only [wT] at e1
    ((try with_reducible refine mkQI ?_); (repeat ((first | (with_reducible refine mkQU ?_) | simp only [brGen]); try simp (maxSteps := 2000000) only [↓ S2, S2, vIte, ↓reduceIte, Int.reduceNe, Nat.reduceEqDiff, reduceCtorEq, Nat.reduceLeDiff, Nat.reduceAdd, Nat.reduceLT])); (try simp +contextual (disch := omega) only [Z2]); (repeat' (first | (with_reducible intro h) | (with_reducible refine And.intro (by omega) ?_) | (with_reducible refine exP (by omega) ?_) | (with_reducible apply And.intro))))
    · congr 2; simp only [szv, wtS] at *; omega
    · exact nx ⟨i + 1, by omega, by omega⟩ (by simp; omega) (by simp [E2]; omega) rfl
    all_goals (exfalso; omega)
  · ((try with_reducible refine mkQI ?_); (repeat ((first | (with_reducible refine mkQU ?_) | simp only [brGen]); try simp (maxSteps := 2000000) only [↓ S2, S2, vIte, ↓reduceIte, Int.reduceNe, Nat.reduceEqDiff, reduceCtorEq, Nat.reduceLeDiff, Nat.reduceAdd, Nat.reduceLT])); (try simp +contextual (disch := omega) only [Z2]); (repeat' (first | (with_reducible intro h) | (with_reducible refine And.intro (by omega) ?_) | (with_reducible refine exP (by omega) ?_) | (with_reducible apply And.intro))))
    all_goals first | (exfalso; omega) | skip
    have : i = xs.length := by omega
    subst this
    rw [psum_all] at *
    congr 2; simp only [szv, wtS]; omega
theorem w132 (xs : List ByteArray) (hx : xs.length ≤ 1048576) : Pure Tryz.prog 132 [TS xs] (· = TS xs) := by
  refine Pure.bor ?_
  refine gstart mxd i132 rfl (by simp) ?_; simp (maxSteps := 2000000) only [↓ S2, S2, vIte, ↓reduceIte, Int.reduceNe, Nat.reduceEqDiff, reduceCtorEq, Nat.reduceLeDiff, Nat.reduceAdd, Nat.reduceLT]
  refine ⟨by omega, by omega, by omega, by omega, fun r hr => ?_⟩
  refine wloop mxd (ι := { i : Nat // i ≤ xs.length }) (fun i => [(0, TS xs), (3, .own r 1 0 xs.length), (4, I i.1)]) (fun i => [(r, 1, (xs.take i.1).map T ++ List.replicate (xs.length - i.1) (T noS))]) (fun i => xs.length - i.1) ⟨0, by simp⟩ (by simp [E2]) (by simp [noS]) ?_
  rintro ⟨i, hi⟩
  ((try with_reducible refine mkQI ?_); (repeat ((first | (with_reducible refine mkQU ?_) | simp only [brGen]); try simp (maxSteps := 2000000) only [↓ S2, S2, vIte, ↓reduceIte, Int.reduceNe, Nat.reduceEqDiff, reduceCtorEq, Nat.reduceLeDiff, Nat.reduceAdd, Nat.reduceLT])); (try simp +contextual (disch := omega) only [Z2]); (repeat' (first | (with_reducible intro h) | (with_reducible refine And.intro (by omega) ?_) | (with_reducible refine exP (by omega) ?_) | (with_reducible apply And.intro))))
  · refine ⟨by simp; omega, nx ⟨i + 1, by omega⟩ (by simp; omega) (by simp [E2]) ?_⟩
    rw [fill_set xs T (T noS) i h]
  · have : i = xs.length := by omega
    subst this
    exact Bor.allM (fun _ => rfl) (by simp [hget]) rfl
theorem w143 (xs ys : List ByteArray) : Pure Tryz.prog 143 [TS xs, TS ys] (· = B (decide (xs = ys))) := by
  refine GCalls.lenA fun hl => ?_
  have hl := hl.1.1
  simp only [List.length_map, maxL] at hl
  refine gstart mxd i143 rfl (by simp) ?_; simp (maxSteps := 2000000) only [↓ S2, S2, vIte, ↓reduceIte, Int.reduceNe, Nat.reduceEqDiff, reduceCtorEq, Nat.reduceLeDiff, Nat.reduceAdd, Nat.reduceLT]
  ((try with_reducible refine mkQI ?_); (repeat ((first | (with_reducible refine mkQU ?_) | simp only [brGen]); try simp (maxSteps := 2000000) only [↓ S2, S2, vIte, ↓reduceIte, Int.reduceNe, Nat.reduceEqDiff, reduceCtorEq, Nat.reduceLeDiff, Nat.reduceAdd, Nat.reduceLT])); (try simp +contextual (disch := omega) only [Z2]); (repeat' (first | (with_reducible intro h) | (with_reducible refine And.intro (by omega) ?_) | (with_reducible refine exP (by omega) ?_) | (with_reducible apply And.intro))))
  rotate_left
  · simp; rintro rfl; exact h rfl
  refine wloop mxd (ι := { i : Nat // i ≤ xs.length ∧ xs.take i = ys.take i }) (fun i => [(0, TS xs), (1, TS ys), (5, I i.1)]) (fun _ => []) (fun i => xs.length - i.1) ⟨0, by simp⟩ (by simp [E2]) rfl ?_
  rintro ⟨i, hi, hp⟩
  ((try with_reducible refine mkQI ?_); (repeat ((first | (with_reducible refine mkQU ?_) | simp only [brGen]); try simp (maxSteps := 2000000) only [↓ S2, S2, vIte, ↓reduceIte, Int.reduceNe, Nat.reduceEqDiff, reduceCtorEq, Nat.reduceLeDiff, Nat.reduceAdd, Nat.reduceLT])); (try simp +contextual (disch := omega) only [Z2]); (repeat' (first | (with_reducible intro h) | (with_reducible refine And.intro (by omega) ?_) | (with_reducible refine exP (by omega) ?_) | (with_reducible apply And.intro))))
  · exact nx ⟨i + 1, by omega, take_eq_step hp (by omega) (by omega) h⟩ (by simp; omega) (by simp [E2]) rfl
  · simp; rintro rfl; simp at h
  · have : i = xs.length := by omega
    subst this
    rw [List.take_of_length_le (by omega), List.take_of_length_le (by omega)] at hp
    simp [hp]
theorem w193 (x : Att) (left : Int) (h0 : 0 ≤ left) (h1 : left ≤ 1048576) (hx : okAt x) : Pure Tryz.prog 193 [At x, I left] (· = I (szv left (wAt x))) := by
  simp only [okAt, maxLen, size_chars] at hx
  refine gstart mxd i193 rfl (by simp) ?_; simp (maxSteps := 2000000) only [↓ S2, S2, vIte, ↓reduceIte, Int.reduceNe, Nat.reduceEqDiff, reduceCtorEq, Nat.reduceLeDiff, Nat.reduceAdd, Nat.reduceLT]
  ((try with_reducible refine mkQI ?_); (repeat ((first | (with_reducible refine mkQU ?_) | simp only [brGen]); try simp (maxSteps := 2000000) only [↓ S2, S2, vIte, ↓reduceIte, Int.reduceNe, Nat.reduceEqDiff, reduceCtorEq, Nat.reduceLeDiff, Nat.reduceAdd, Nat.reduceLT])); (try simp +contextual (disch := omega) only [Z2]); (repeat' (first | (with_reducible intro h) | (with_reducible refine And.intro (by omega) ?_) | (with_reducible refine exP (by omega) ?_) | (with_reducible apply And.intro)))) <;> (congr 2; simp only [szv, wAt]; omega)
theorem w60 (x : Sym) (left : Int) (h0 : 0 ≤ left) (h1 : left ≤ 1048576) (hx : okSy x) : Pure Tryz.prog 60 [Sy x, I left] (· = I (szv left (wSy x))) := by
  obtain ⟨ho, hx⟩ := hx
  simp only [maxLen, size_chars] at ho
  refine gstart mxd i60 rfl (by simp) ?_; simp (maxSteps := 2000000) only [↓ S2, S2, vIte, ↓reduceIte, Int.reduceNe, Nat.reduceEqDiff, reduceCtorEq, Nat.reduceLeDiff, Nat.reduceAdd, Nat.reduceLT]
  ((try with_reducible refine mkQI ?_); (repeat ((first | (with_reducible refine mkQU ?_) | simp only [brGen]); try simp (maxSteps := 2000000) only [↓ S2, S2, vIte, ↓reduceIte, Int.reduceNe, Nat.reduceEqDiff, reduceCtorEq, Nat.reduceLeDiff, Nat.reduceAdd, Nat.reduceLT])); (try simp +contextual (disch := omega) only [Z2]); (repeat' (first | (with_reducible intro h) | (with_reducible refine And.intro (by omega) ?_) | (with_reducible refine exP (by omega) ?_) | (with_reducible apply And.intro))))
  · congr 2; simp only [szv, wSy]; omega
  refine callS.eq (szS mxd wAt i123 (fun _ => rfl) (fun _ => rfl) x.atts _ (by omega) (by omega) fun a hm l c d => w193 a l c d (hx a hm)) ?_
  ((try with_reducible refine mkQI ?_); (repeat ((first | (with_reducible refine mkQU ?_) | simp only [brGen]); try simp (maxSteps := 2000000) only [↓ S2, S2, vIte, ↓reduceIte, Int.reduceNe, Nat.reduceEqDiff, reduceCtorEq, Nat.reduceLeDiff, Nat.reduceAdd, Nat.reduceLT])); (try simp +contextual (disch := omega) only [Z2]); (repeat' (first | (with_reducible intro h) | (with_reducible refine And.intro (by omega) ?_) | (with_reducible refine exP (by omega) ?_) | (with_reducible apply And.intro)))) <;> (congr 2; simp only [szv, wSy] at *; omega)
theorem w194 (x : Eqn) (left : Int) (h0 : 0 ≤ left) (h1 : left ≤ 1048576) (hx : okEq x) : Pure Tryz.prog 194 [Qn x, I left] (· = I (szv left (wEq x))) := by
  have hz := size_chars x.name
  refine gstart mxd i194 rfl (by simp) ?_; simp (maxSteps := 2000000) only [↓ S2, S2, vIte, ↓reduceIte, Int.reduceNe, Nat.reduceEqDiff, reduceCtorEq, Nat.reduceLeDiff, Nat.reduceAdd, Nat.reduceLT]
  refine callS.eq (w243 (x.pos, x.name) _ (by omega) (by omega) hx.1) ?_
  ((try with_reducible refine mkQI ?_); (repeat ((first | (with_reducible refine mkQU ?_) | simp only [brGen]); try simp (maxSteps := 2000000) only [↓ S2, S2, vIte, ↓reduceIte, Int.reduceNe, Nat.reduceEqDiff, reduceCtorEq, Nat.reduceLeDiff, Nat.reduceAdd, Nat.reduceLT, XE])); (try simp +contextual (disch := omega) only [Z2, XE]); (repeat' (first | (with_reducible intro h) | (with_reducible refine And.intro (by omega) ?_) | (with_reducible refine exP (by omega) ?_) | (with_reducible apply And.intro))))
  · congr 2; simp only [szv, wEq, wOcc] at *; omega
  have e := szv_nn h
  rw [szv_pos e]
  simp only [wOcc] at e ⊢
  refine callS.eq (w244 x.expr hx.2 _ (by omega) (by omega)) ?_
  ((try with_reducible refine mkQI ?_); (repeat ((first | (with_reducible refine mkQU ?_) | simp only [brGen]); try simp (maxSteps := 2000000) only [↓ S2, S2, vIte, ↓reduceIte, Int.reduceNe, Nat.reduceEqDiff, reduceCtorEq, Nat.reduceLeDiff, Nat.reduceAdd, Nat.reduceLT])); (try simp +contextual (disch := omega) only [Z2]); (repeat' (first | (with_reducible intro h) | (with_reducible refine And.intro (by omega) ?_) | (with_reducible refine exP (by omega) ?_) | (with_reducible apply And.intro)))) <;> (congr 2; simp only [szv, wEq, wOcc] at *; omega)
theorem w195 (x : Con) (left : Int) (h0 : 0 ≤ left) (h1 : left ≤ 1048576) (hx : okCo x) : Pure Tryz.prog 195 [Co x, I left] (· = I (szv left (wCo x))) := by
  obtain ⟨ho, hp, hg, hv⟩ := hx
  simp only [maxLen, size_chars] at ho hp
  refine gstart mxd i195 rfl (by simp) ?_; simp (maxSteps := 2000000) only [↓ S2, S2, vIte, ↓reduceIte, Int.reduceNe, Nat.reduceEqDiff, reduceCtorEq, Nat.reduceLeDiff, Nat.reduceAdd, Nat.reduceLT]
  ((try with_reducible refine mkQI ?_); (repeat ((first | (with_reducible refine mkQU ?_) | simp only [brGen]); try simp (maxSteps := 2000000) only [↓ S2, S2, vIte, ↓reduceIte, Int.reduceNe, Nat.reduceEqDiff, reduceCtorEq, Nat.reduceLeDiff, Nat.reduceAdd, Nat.reduceLT, XE])); (try simp +contextual (disch := omega) only [Z2, XE]); (repeat' (first | (with_reducible intro h) | (with_reducible refine And.intro (by omega) ?_) | (with_reducible refine exP (by omega) ?_) | (with_reducible apply And.intro))))
  · congr 2; simp only [szv, wCo]; omega
  · congr 2; simp only [szv, wCo]; omega
  refine callS.eq (w244 x.goal hg _ (by omega) (by omega)) ?_
  ((try with_reducible refine mkQI ?_); (repeat ((first | (with_reducible refine mkQU ?_) | simp only [brGen]); try simp (maxSteps := 2000000) only [↓ S2, S2, vIte, ↓reduceIte, Int.reduceNe, Nat.reduceEqDiff, reduceCtorEq, Nat.reduceLeDiff, Nat.reduceAdd, Nat.reduceLT, XE])); (try simp +contextual (disch := omega) only [Z2, XE]); (repeat' (first | (with_reducible intro h) | (with_reducible refine And.intro (by omega) ?_) | (with_reducible refine exP (by omega) ?_) | (with_reducible apply And.intro))))
  · congr 2; simp only [szv, wCo] at *; omega
  have e := szv_nn h
  rw [szv_pos e]
  refine callS.eq (w244 x.value hv _ (by omega) (by omega)) ?_
  ((try with_reducible refine mkQI ?_); (repeat ((first | (with_reducible refine mkQU ?_) | simp only [brGen]); try simp (maxSteps := 2000000) only [↓ S2, S2, vIte, ↓reduceIte, Int.reduceNe, Nat.reduceEqDiff, reduceCtorEq, Nat.reduceLeDiff, Nat.reduceAdd, Nat.reduceLT])); (try simp +contextual (disch := omega) only [Z2]); (repeat' (first | (with_reducible intro h) | (with_reducible refine And.intro (by omega) ?_) | (with_reducible refine exP (by omega) ?_) | (with_reducible apply And.intro)))) <;> (congr 2; simp only [szv, wCo] at *; omega)
theorem w61 (x : Rul) (left : Int) (h0 : 0 ≤ left) (h1 : left ≤ 1048576) (hx : okRu x) : Pure Tryz.prog 61 [Ru x, I left] (· = I (szv left (wRu x))) := by
  obtain ⟨ho, hp, hr, hq, hc⟩ := hx
  simp only [maxLen, size_chars] at ho hp
  refine gstart mxd i61 rfl (by simp) ?_; simp (maxSteps := 2000000) only [↓ S2, S2, vIte, ↓reduceIte, Int.reduceNe, Nat.reduceEqDiff, reduceCtorEq, Nat.reduceLeDiff, Nat.reduceAdd, Nat.reduceLT]
  ((try with_reducible refine mkQI ?_); (repeat ((first | (with_reducible refine mkQU ?_) | simp only [brGen]); try simp (maxSteps := 2000000) only [↓ S2, S2, vIte, ↓reduceIte, Int.reduceNe, Nat.reduceEqDiff, reduceCtorEq, Nat.reduceLeDiff, Nat.reduceAdd, Nat.reduceLT])); (try simp +contextual (disch := omega) only [Z2]); (repeat' (first | (with_reducible intro h) | (with_reducible refine And.intro (by omega) ?_) | (with_reducible refine exP (by omega) ?_) | (with_reducible apply And.intro))))
  · congr 2; simp only [szv, wRu]; omega
  · congr 2; simp only [szv, wRu]; omega
  refine callS.eq (w124 x.right _ (by omega) (by omega) hr) ?_
  ((try with_reducible refine mkQI ?_); (repeat ((first | (with_reducible refine mkQU ?_) | simp only [brGen]); try simp (maxSteps := 2000000) only [↓ S2, S2, vIte, ↓reduceIte, Int.reduceNe, Nat.reduceEqDiff, reduceCtorEq, Nat.reduceLeDiff, Nat.reduceAdd, Nat.reduceLT])); (try simp +contextual (disch := omega) only [Z2]); (repeat' (first | (with_reducible intro h) | (with_reducible refine And.intro (by omega) ?_) | (with_reducible refine exP (by omega) ?_) | (with_reducible apply And.intro))))
  · congr 2; simp only [szv, wRu] at *; omega
  have e := szv_nn h
  rw [szv_pos e]
  refine callS.eq (szS mxd wEq i125 (fun _ => rfl) (fun _ => rfl) x.eqs _ (by omega) (by omega) fun a hm l c d => w194 a l c d (hq a hm)) ?_
  ((try with_reducible refine mkQI ?_); (repeat ((first | (with_reducible refine mkQU ?_) | simp only [brGen]); try simp (maxSteps := 2000000) only [↓ S2, S2, vIte, ↓reduceIte, Int.reduceNe, Nat.reduceEqDiff, reduceCtorEq, Nat.reduceLeDiff, Nat.reduceAdd, Nat.reduceLT])); (try simp +contextual (disch := omega) only [Z2]); (repeat' (first | (with_reducible intro h) | (with_reducible refine And.intro (by omega) ?_) | (with_reducible refine exP (by omega) ?_) | (with_reducible apply And.intro))))
  · congr 2; simp only [szv, wRu] at *; omega
  have e2 := szv_nn h
  rw [szv_pos e2]
  refine callS.eq (szS mxd wCo i126 (fun _ => rfl) (fun _ => rfl) x.cons _ (by omega) (by omega) fun a hm l c d => w195 a l c d (hc a hm)) ?_
  ((try with_reducible refine mkQI ?_); (repeat ((first | (with_reducible refine mkQU ?_) | simp only [brGen]); try simp (maxSteps := 2000000) only [↓ S2, S2, vIte, ↓reduceIte, Int.reduceNe, Nat.reduceEqDiff, reduceCtorEq, Nat.reduceLeDiff, Nat.reduceAdd, Nat.reduceLT])); (try simp +contextual (disch := omega) only [Z2]); (repeat' (first | (with_reducible intro h) | (with_reducible refine And.intro (by omega) ?_) | (with_reducible refine exP (by omega) ?_) | (with_reducible apply And.intro)))) <;> (congr 2; simp only [szv, wRu] at *; omega)
theorem w7 (g : Gram) (left : Int) (h0 : 0 ≤ left) (h1 : left ≤ 1048576) (hx : okGr g) : Pure Tryz.prog 7 [Gr g, I left] (· = I (szv left (wGr g))) := by
  refine gstart mxd i7 rfl (by simp) ?_; simp (maxSteps := 2000000) only [↓ S2, S2, vIte, ↓reduceIte, Int.reduceNe, Nat.reduceEqDiff, reduceCtorEq, Nat.reduceLeDiff, Nat.reduceAdd, Nat.reduceLT]
  refine callS.eq (szS mxd wSy i27 (fun _ => rfl) (fun _ => rfl) g.syms _ (by omega) (by omega) fun a hm l c d => w60 a l c d (hx.1 a hm)) ?_
  ((try with_reducible refine mkQI ?_); (repeat ((first | (with_reducible refine mkQU ?_) | simp only [brGen]); try simp (maxSteps := 2000000) only [↓ S2, S2, vIte, ↓reduceIte, Int.reduceNe, Nat.reduceEqDiff, reduceCtorEq, Nat.reduceLeDiff, Nat.reduceAdd, Nat.reduceLT])); (try simp +contextual (disch := omega) only [Z2]); (repeat' (first | (with_reducible intro h) | (with_reducible refine And.intro (by omega) ?_) | (with_reducible refine exP (by omega) ?_) | (with_reducible apply And.intro))))
  · congr 2; simp only [szv, wGr] at *; omega
  have e := szv_nn h
  rw [szv_pos e]
  refine callS.eq (szS mxd wRu i28 (fun _ => rfl) (fun _ => rfl) g.rules _ (by omega) (by omega) fun a hm l c d => w61 a l c d (hx.2 a hm)) ?_
  ((try with_reducible refine mkQI ?_); (repeat ((first | (with_reducible refine mkQU ?_) | simp only [brGen]); try simp (maxSteps := 2000000) only [↓ S2, S2, vIte, ↓reduceIte, Int.reduceNe, Nat.reduceEqDiff, reduceCtorEq, Nat.reduceLeDiff, Nat.reduceAdd, Nat.reduceLT])); (try simp +contextual (disch := omega) only [Z2]); (repeat' (first | (with_reducible intro h) | (with_reducible refine And.intro (by omega) ?_) | (with_reducible refine exP (by omega) ?_) | (with_reducible apply And.intro)))) <;> (congr 2; simp only [szv, wGr] at *; omega)
theorem w197 (x : Att) : Pure Tryz.prog 197 [At x] (· = At x) := by
  refine gstart mxd i197 rfl (by simp) ?_; simp (maxSteps := 2000000) only [↓ S2, S2, vIte, ↓reduceIte, Int.reduceNe, Nat.reduceEqDiff, reduceCtorEq, Nat.reduceLeDiff, Nat.reduceAdd, Nat.reduceLT]
  ((try with_reducible refine mkQI ?_); (repeat ((first | (with_reducible refine mkQU ?_) | simp only [brGen]); try simp (maxSteps := 2000000) only [↓ S2, S2, vIte, ↓reduceIte, Int.reduceNe, Nat.reduceEqDiff, reduceCtorEq, Nat.reduceLeDiff, Nat.reduceAdd, Nat.reduceLT])); (try simp +contextual (disch := omega) only [Z2]); (repeat' (first | (with_reducible intro h) | (with_reducible refine And.intro (by omega) ?_) | (with_reducible refine exP (by omega) ?_) | (with_reducible apply And.intro))))
theorem w131 (xs : List Att) (hl : xs.length ≤ 1048576) : Pure Tryz.prog 131 [AtS xs] (· = AtS xs) :=
  freezeS (fun _ => rfl) fun H => toSo mxd i131 (fun _ => rfl) (fun _ => rfl) (fun _ => rfl) (fun _ => rfl) xs hl (by decide) (fun x hm => w197 x) H
theorem w67 (x : Sym) (hx : smSy x) : Pure Tryz.prog 67 [Sy x] (· = Sy x) := by
  refine gstart mxd i67 rfl (by simp) ?_; simp (maxSteps := 2000000) only [↓ S2, S2, vIte, ↓reduceIte, Int.reduceNe, Nat.reduceEqDiff, reduceCtorEq, Nat.reduceLeDiff, Nat.reduceAdd, Nat.reduceLT]
  intro r hr
  refine callS.eq (w131 _ hx) ?_
  ((try with_reducible refine mkQI ?_); (repeat ((first | (with_reducible refine mkQU ?_) | simp only [brGen]); try simp (maxSteps := 2000000) only [↓ S2, S2, vIte, ↓reduceIte, Int.reduceNe, Nat.reduceEqDiff, reduceCtorEq, Nat.reduceLeDiff, Nat.reduceAdd, Nat.reduceLT])); (try simp +contextual (disch := omega) only [Z2]); (repeat' (first | (with_reducible intro h) | (with_reducible refine And.intro (by omega) ?_) | (with_reducible refine exP (by omega) ?_) | (with_reducible apply And.intro))))
theorem w198 (x : Eqn) (hx : smEq x) : Pure Tryz.prog 198 [Qn x] (· = Qn x) := by
  refine gstart mxd i198 rfl (by simp) ?_; simp (maxSteps := 2000000) only [↓ S2, S2, vIte, ↓reduceIte, Int.reduceNe, Nat.reduceEqDiff, reduceCtorEq, Nat.reduceLeDiff, Nat.reduceAdd, Nat.reduceLT]
  intro r hr
  refine callS.eq (w246 (x.pos, x.name)) ?_
  simp (maxSteps := 2000000) only [↓ S2, S2, vIte, ↓reduceIte, Int.reduceNe, Nat.reduceEqDiff, reduceCtorEq, Nat.reduceLeDiff, Nat.reduceAdd, Nat.reduceLT, XE]
  refine callS.eq (w247 x.expr hx) ?_
  ((try with_reducible refine mkQI ?_); (repeat ((first | (with_reducible refine mkQU ?_) | simp only [brGen]); try simp (maxSteps := 2000000) only [↓ S2, S2, vIte, ↓reduceIte, Int.reduceNe, Nat.reduceEqDiff, reduceCtorEq, Nat.reduceLeDiff, Nat.reduceAdd, Nat.reduceLT, XE])); (try simp +contextual (disch := omega) only [Z2, XE]); (repeat' (first | (with_reducible intro h) | (with_reducible refine And.intro (by omega) ?_) | (with_reducible refine exP (by omega) ?_) | (with_reducible apply And.intro))))
theorem w199 (x : Con) (hx : smCo x) : Pure Tryz.prog 199 [Co x] (· = Co x) := by
  refine gstart mxd i199 rfl (by simp) ?_; simp (maxSteps := 2000000) only [↓ S2, S2, vIte, ↓reduceIte, Int.reduceNe, Nat.reduceEqDiff, reduceCtorEq, Nat.reduceLeDiff, Nat.reduceAdd, Nat.reduceLT]
  intro r hr
  try simp (maxSteps := 2000000) only [↓ S2, S2, vIte, ↓reduceIte, Int.reduceNe, Nat.reduceEqDiff, reduceCtorEq, Nat.reduceLeDiff, Nat.reduceAdd, Nat.reduceLT, XE]
  refine callS.eq (w247 x.goal hx.1) ?_
  simp (maxSteps := 2000000) only [↓ S2, S2, vIte, ↓reduceIte, Int.reduceNe, Nat.reduceEqDiff, reduceCtorEq, Nat.reduceLeDiff, Nat.reduceAdd, Nat.reduceLT, XE]
  refine callS.eq (w247 x.value hx.2) ?_
  ((try with_reducible refine mkQI ?_); (repeat ((first | (with_reducible refine mkQU ?_) | simp only [brGen]); try simp (maxSteps := 2000000) only [↓ S2, S2, vIte, ↓reduceIte, Int.reduceNe, Nat.reduceEqDiff, reduceCtorEq, Nat.reduceLeDiff, Nat.reduceAdd, Nat.reduceLT, XE])); (try simp +contextual (disch := omega) only [Z2, XE]); (repeat' (first | (with_reducible intro h) | (with_reducible refine And.intro (by omega) ?_) | (with_reducible refine exP (by omega) ?_) | (with_reducible apply And.intro))))
theorem w68 (x : Rul) (hx : smRu x) : Pure Tryz.prog 68 [Ru x] (· = Ru x) := by
  obtain ⟨h1, h2, h3, h4, h5⟩ := hx
  refine gstart mxd i68 rfl (by simp) ?_; simp (maxSteps := 2000000) only [↓ S2, S2, vIte, ↓reduceIte, Int.reduceNe, Nat.reduceEqDiff, reduceCtorEq, Nat.reduceLeDiff, Nat.reduceAdd, Nat.reduceLT]
  intro r hr
  refine callS.eq (w132 _ h1) ?_
  simp (maxSteps := 2000000) only [↓ S2, S2, vIte, ↓reduceIte, Int.reduceNe, Nat.reduceEqDiff, reduceCtorEq, Nat.reduceLeDiff, Nat.reduceAdd, Nat.reduceLT]
  refine callS.eq (freezeS (fun _ => rfl) fun H => toSo mxd i133 (fun _ => rfl) (fun _ => rfl) (fun _ => rfl) (fun _ => rfl) x.eqs h2 (by decide) (fun x hm => w198 x (h4 x hm)) H) ?_
  simp (maxSteps := 2000000) only [↓ S2, S2, vIte, ↓reduceIte, Int.reduceNe, Nat.reduceEqDiff, reduceCtorEq, Nat.reduceLeDiff, Nat.reduceAdd, Nat.reduceLT]
  refine callS.eq (freezeS (fun _ => rfl) fun H => toSo mxd i134 (fun _ => rfl) (fun _ => rfl) (fun _ => rfl) (fun _ => rfl) x.cons h3 (by decide) (fun x hm => w199 x (h5 x hm)) H) ?_
  ((try with_reducible refine mkQI ?_); (repeat ((first | (with_reducible refine mkQU ?_) | simp only [brGen]); try simp (maxSteps := 2000000) only [↓ S2, S2, vIte, ↓reduceIte, Int.reduceNe, Nat.reduceEqDiff, reduceCtorEq, Nat.reduceLeDiff, Nat.reduceAdd, Nat.reduceLT])); (try simp +contextual (disch := omega) only [Z2]); (repeat' (first | (with_reducible intro h) | (with_reducible refine And.intro (by omega) ?_) | (with_reducible refine exP (by omega) ?_) | (with_reducible apply And.intro))))
theorem w10 (g : Gram) (hx : smGr g) : Pure Tryz.prog 10 [Gr g] (· = Gr g) := by
  obtain ⟨h1, h2, h3, h4⟩ := hx
  refine gstart mxd i10 rfl (by simp) ?_; simp (maxSteps := 2000000) only [↓ S2, S2, vIte, ↓reduceIte, Int.reduceNe, Nat.reduceEqDiff, reduceCtorEq, Nat.reduceLeDiff, Nat.reduceAdd, Nat.reduceLT]
  intro r hr
  refine callS.eq (freezeS (fun _ => rfl) fun H => toSo mxd i32 (fun _ => rfl) (fun _ => rfl) (fun _ => rfl) (fun _ => rfl) g.syms h1 (by decide) (fun x hm => w67 x (h3 x hm)) H) ?_
  simp (maxSteps := 2000000) only [↓ S2, S2, vIte, ↓reduceIte, Int.reduceNe, Nat.reduceEqDiff, reduceCtorEq, Nat.reduceLeDiff, Nat.reduceAdd, Nat.reduceLT]
  refine callS.eq (freezeS (fun _ => rfl) fun H => toSo mxd i33 (fun _ => rfl) (fun _ => rfl) (fun _ => rfl) (fun _ => rfl) g.rules h2 (by decide) (fun x hm => w68 x (h4 x hm)) H) ?_
  ((try with_reducible refine mkQI ?_); (repeat ((first | (with_reducible refine mkQU ?_) | simp only [brGen]); try simp (maxSteps := 2000000) only [↓ S2, S2, vIte, ↓reduceIte, Int.reduceNe, Nat.reduceEqDiff, reduceCtorEq, Nat.reduceLeDiff, Nat.reduceAdd, Nat.reduceLT])); (try simp +contextual (disch := omega) only [Z2]); (repeat' (first | (with_reducible intro h) | (with_reducible refine And.intro (by omega) ?_) | (with_reducible refine exP (by omega) ?_) | (with_reducible apply And.intro))))
theorem w210 (x y : Att) : Pure Tryz.prog 210 [At x, At y] (· = B (decide (x = y))) := by
  refine gstart mxd i210 rfl (by simp) ?_; simp (maxSteps := 2000000) only [↓ S2, S2, vIte, ↓reduceIte, Int.reduceNe, Nat.reduceEqDiff, reduceCtorEq, Nat.reduceLeDiff, Nat.reduceAdd, Nat.reduceLT]
  ((try with_reducible refine mkQI ?_); (repeat ((first | (with_reducible refine mkQU ?_) | simp only [brGen]); try simp (maxSteps := 2000000) only [↓ S2, S2, vIte, ↓reduceIte, Int.reduceNe, Nat.reduceEqDiff, reduceCtorEq, Nat.reduceLeDiff, Nat.reduceAdd, Nat.reduceLT])); (try simp +contextual (disch := omega) only [Z2]); (repeat' (first | (with_reducible intro h) | (with_reducible refine And.intro (by omega) ?_) | (with_reducible refine exP (by omega) ?_) | (with_reducible apply And.intro)))) <;> simp_all [Att.ext_iff]
theorem w77 (x y : Sym) : Pure Tryz.prog 77 [Sy x, Sy y] (· = B (decide (x = y))) := by
  refine gstart mxd i77 rfl (by simp) ?_; simp (maxSteps := 2000000) only [↓ S2, S2, vIte, ↓reduceIte, Int.reduceNe, Nat.reduceEqDiff, reduceCtorEq, Nat.reduceLeDiff, Nat.reduceAdd, Nat.reduceLT]
  ((try with_reducible refine mkQI ?_); (repeat ((first | (with_reducible refine mkQU ?_) | simp only [brGen]); try simp (maxSteps := 2000000) only [↓ S2, S2, vIte, ↓reduceIte, Int.reduceNe, Nat.reduceEqDiff, reduceCtorEq, Nat.reduceLeDiff, Nat.reduceAdd, Nat.reduceLT])); (try simp +contextual (disch := omega) only [Z2]); (repeat' (first | (with_reducible intro h) | (with_reducible refine And.intro (by omega) ?_) | (with_reducible refine exP (by omega) ?_) | (with_reducible apply And.intro))))
  rotate_left
  · simp_all [Sym.ext_iff]
  refine callS.eq (eqS mxd i142 (fun _ => rfl) (fun _ => rfl) x.atts y.atts fun a _ b _ => w210 a b) ?_
  ((try with_reducible refine mkQI ?_); (repeat ((first | (with_reducible refine mkQU ?_) | simp only [brGen]); try simp (maxSteps := 2000000) only [↓ S2, S2, vIte, ↓reduceIte, Int.reduceNe, Nat.reduceEqDiff, reduceCtorEq, Nat.reduceLeDiff, Nat.reduceAdd, Nat.reduceLT])); (try simp +contextual (disch := omega) only [Z2]); (repeat' (first | (with_reducible intro h) | (with_reducible refine And.intro (by omega) ?_) | (with_reducible refine exP (by omega) ?_) | (with_reducible apply And.intro)))) <;> simp_all [Sym.ext_iff]
theorem w211 (x y : Eqn) : Pure Tryz.prog 211 [Qn x, Qn y] (· = B (decide (x = y))) := by
  refine gstart mxd i211 rfl (by simp) ?_; simp (maxSteps := 2000000) only [↓ S2, S2, vIte, ↓reduceIte, Int.reduceNe, Nat.reduceEqDiff, reduceCtorEq, Nat.reduceLeDiff, Nat.reduceAdd, Nat.reduceLT]
  refine callS.eq (w259 (x.pos, x.name) (y.pos, y.name)) ?_
  ((try with_reducible refine mkQI ?_); (repeat ((first | (with_reducible refine mkQU ?_) | simp only [brGen]); try simp (maxSteps := 2000000) only [↓ S2, S2, vIte, ↓reduceIte, Int.reduceNe, Nat.reduceEqDiff, reduceCtorEq, Nat.reduceLeDiff, Nat.reduceAdd, Nat.reduceLT, XE])); (try simp +contextual (disch := omega) only [Z2, XE]); (repeat' (first | (with_reducible intro h) | (with_reducible refine And.intro (by omega) ?_) | (with_reducible refine exP (by omega) ?_) | (with_reducible apply And.intro))))
  rotate_left
  · simp_all [Eqn.ext_iff, Prod.ext_iff]
  refine callS.eq (w260 x.expr y.expr) ?_
  ((try with_reducible refine mkQI ?_); (repeat ((first | (with_reducible refine mkQU ?_) | simp only [brGen]); try simp (maxSteps := 2000000) only [↓ S2, S2, vIte, ↓reduceIte, Int.reduceNe, Nat.reduceEqDiff, reduceCtorEq, Nat.reduceLeDiff, Nat.reduceAdd, Nat.reduceLT])); (try simp +contextual (disch := omega) only [Z2]); (repeat' (first | (with_reducible intro h) | (with_reducible refine And.intro (by omega) ?_) | (with_reducible refine exP (by omega) ?_) | (with_reducible apply And.intro)))) <;> simp_all [Eqn.ext_iff, Prod.ext_iff]
theorem w212 (x y : Con) : Pure Tryz.prog 212 [Co x, Co y] (· = B (decide (x = y))) := by
  refine gstart mxd i212 rfl (by simp) ?_; simp (maxSteps := 2000000) only [↓ S2, S2, vIte, ↓reduceIte, Int.reduceNe, Nat.reduceEqDiff, reduceCtorEq, Nat.reduceLeDiff, Nat.reduceAdd, Nat.reduceLT]
  ((try with_reducible refine mkQI ?_); (repeat ((first | (with_reducible refine mkQU ?_) | simp only [brGen]); try simp (maxSteps := 2000000) only [↓ S2, S2, vIte, ↓reduceIte, Int.reduceNe, Nat.reduceEqDiff, reduceCtorEq, Nat.reduceLeDiff, Nat.reduceAdd, Nat.reduceLT, XE])); (try simp +contextual (disch := omega) only [Z2, XE]); (repeat' (first | (with_reducible intro h) | (with_reducible refine And.intro (by omega) ?_) | (with_reducible refine exP (by omega) ?_) | (with_reducible apply And.intro))))
  all_goals first
    | (simp [Con.ext_iff, *]; done)
    | skip
  refine callS.eq (w260 x.goal y.goal) ?_
  ((try with_reducible refine mkQI ?_); (repeat ((first | (with_reducible refine mkQU ?_) | simp only [brGen]); try simp (maxSteps := 2000000) only [↓ S2, S2, vIte, ↓reduceIte, Int.reduceNe, Nat.reduceEqDiff, reduceCtorEq, Nat.reduceLeDiff, Nat.reduceAdd, Nat.reduceLT, XE])); (try simp +contextual (disch := omega) only [Z2, XE]); (repeat' (first | (with_reducible intro h) | (with_reducible refine And.intro (by omega) ?_) | (with_reducible refine exP (by omega) ?_) | (with_reducible apply And.intro))))
  rotate_left
  · simp_all [Con.ext_iff]
  refine callS.eq (w260 x.value y.value) ?_
  ((try with_reducible refine mkQI ?_); (repeat ((first | (with_reducible refine mkQU ?_) | simp only [brGen]); try simp (maxSteps := 2000000) only [↓ S2, S2, vIte, ↓reduceIte, Int.reduceNe, Nat.reduceEqDiff, reduceCtorEq, Nat.reduceLeDiff, Nat.reduceAdd, Nat.reduceLT])); (try simp +contextual (disch := omega) only [Z2]); (repeat' (first | (with_reducible intro h) | (with_reducible refine And.intro (by omega) ?_) | (with_reducible refine exP (by omega) ?_) | (with_reducible apply And.intro)))) <;> simp_all [Con.ext_iff]
theorem w78 (x y : Rul) : Pure Tryz.prog 78 [Ru x, Ru y] (· = B (decide (x = y))) := by
  refine gstart mxd i78 rfl (by simp) ?_; simp (maxSteps := 2000000) only [↓ S2, S2, vIte, ↓reduceIte, Int.reduceNe, Nat.reduceEqDiff, reduceCtorEq, Nat.reduceLeDiff, Nat.reduceAdd, Nat.reduceLT]
  ((try with_reducible refine mkQI ?_); (repeat ((first | (with_reducible refine mkQU ?_) | simp only [brGen]); try simp (maxSteps := 2000000) only [↓ S2, S2, vIte, ↓reduceIte, Int.reduceNe, Nat.reduceEqDiff, reduceCtorEq, Nat.reduceLeDiff, Nat.reduceAdd, Nat.reduceLT])); (try simp +contextual (disch := omega) only [Z2]); (repeat' (first | (with_reducible intro h) | (with_reducible refine And.intro (by omega) ?_) | (with_reducible refine exP (by omega) ?_) | (with_reducible apply And.intro))))
  all_goals first
    | (simp [Rul.ext_iff, *]; done)
    | skip
  refine callS.eq (w143 x.right y.right) ?_
  ((try with_reducible refine mkQI ?_); (repeat ((first | (with_reducible refine mkQU ?_) | simp only [brGen]); try simp (maxSteps := 2000000) only [↓ S2, S2, vIte, ↓reduceIte, Int.reduceNe, Nat.reduceEqDiff, reduceCtorEq, Nat.reduceLeDiff, Nat.reduceAdd, Nat.reduceLT])); (try simp +contextual (disch := omega) only [Z2]); (repeat' (first | (with_reducible intro h) | (with_reducible refine And.intro (by omega) ?_) | (with_reducible refine exP (by omega) ?_) | (with_reducible apply And.intro))))
  all_goals first
    | (simp [Rul.ext_iff, *]; done)
    | (simp_all [Rul.ext_iff]; done)
    | skip
  refine callS.eq (eqS mxd i144 (fun _ => rfl) (fun _ => rfl) x.eqs y.eqs fun a _ b _ => w211 a b) ?_
  ((try with_reducible refine mkQI ?_); (repeat ((first | (with_reducible refine mkQU ?_) | simp only [brGen]); try simp (maxSteps := 2000000) only [↓ S2, S2, vIte, ↓reduceIte, Int.reduceNe, Nat.reduceEqDiff, reduceCtorEq, Nat.reduceLeDiff, Nat.reduceAdd, Nat.reduceLT])); (try simp +contextual (disch := omega) only [Z2]); (repeat' (first | (with_reducible intro h) | (with_reducible refine And.intro (by omega) ?_) | (with_reducible refine exP (by omega) ?_) | (with_reducible apply And.intro))))
  rotate_left
  · simp_all [Rul.ext_iff]
  refine callS.eq (eqS mxd i145 (fun _ => rfl) (fun _ => rfl) x.cons y.cons fun a _ b _ => w212 a b) ?_
  ((try with_reducible refine mkQI ?_); (repeat ((first | (with_reducible refine mkQU ?_) | simp only [brGen]); try simp (maxSteps := 2000000) only [↓ S2, S2, vIte, ↓reduceIte, Int.reduceNe, Nat.reduceEqDiff, reduceCtorEq, Nat.reduceLeDiff, Nat.reduceAdd, Nat.reduceLT])); (try simp +contextual (disch := omega) only [Z2]); (repeat' (first | (with_reducible intro h) | (with_reducible refine And.intro (by omega) ?_) | (with_reducible refine exP (by omega) ?_) | (with_reducible apply And.intro)))) <;> simp_all [Rul.ext_iff]
theorem w14 (x y : Gram) : Pure Tryz.prog 14 [Gr x, Gr y] (· = B (decide (x = y))) := by
  refine gstart mxd i14 rfl (by simp) ?_; simp (maxSteps := 2000000) only [↓ S2, S2, vIte, ↓reduceIte, Int.reduceNe, Nat.reduceEqDiff, reduceCtorEq, Nat.reduceLeDiff, Nat.reduceAdd, Nat.reduceLT]
  refine callS.eq (eqS mxd i38 (fun _ => rfl) (fun _ => rfl) x.syms y.syms fun a _ b _ => w77 a b) ?_
  ((try with_reducible refine mkQI ?_); (repeat ((first | (with_reducible refine mkQU ?_) | simp only [brGen]); try simp (maxSteps := 2000000) only [↓ S2, S2, vIte, ↓reduceIte, Int.reduceNe, Nat.reduceEqDiff, reduceCtorEq, Nat.reduceLeDiff, Nat.reduceAdd, Nat.reduceLT])); (try simp +contextual (disch := omega) only [Z2]); (repeat' (first | (with_reducible intro h) | (with_reducible refine And.intro (by omega) ?_) | (with_reducible refine exP (by omega) ?_) | (with_reducible apply And.intro))))
  rotate_left
  · simp_all [Gram.ext_iff]
  refine callS.eq (eqS mxd i39 (fun _ => rfl) (fun _ => rfl) x.rules y.rules fun a _ b _ => w78 a b) ?_
  ((try with_reducible refine mkQI ?_); (repeat ((first | (with_reducible refine mkQU ?_) | simp only [brGen]); try simp (maxSteps := 2000000) only [↓ S2, S2, vIte, ↓reduceIte, Int.reduceNe, Nat.reduceEqDiff, reduceCtorEq, Nat.reduceLeDiff, Nat.reduceAdd, Nat.reduceLT])); (try simp +contextual (disch := omega) only [Z2]); (repeat' (first | (with_reducible intro h) | (with_reducible refine And.intro (by omega) ?_) | (with_reducible refine exP (by omega) ?_) | (with_reducible apply And.intro)))) <;> simp_all [Gram.ext_iff]
end Go.Proofs.YtbdmpkidcpblaaaGreat

namespace Go.Proofs.YtbdmpkidcpblaaaGreat
open Go.Gh
set_option maxRecDepth 20000
set_option linter.unusedSimpArgs false
set_option linter.unusedVariables false
theorem w66 (x y : Int) : Pure Tryz.prog 66 [I x, I y] (· = I (max x y)) := by
  refine gstart mxd i66 rfl (by simp) ?_; simp (maxSteps := 2000000) only [↓ S2, S2, vIte, ↓reduceIte, Int.reduceNe, Nat.reduceEqDiff, reduceCtorEq, Nat.reduceLeDiff, Nat.reduceAdd, Nat.reduceLT]
  ((try with_reducible refine mkQI ?_); (repeat ((first | (with_reducible refine mkQU ?_) | simp only [brGen]); try simp (maxSteps := 2000000) only [↓ S2, S2, vIte, ↓reduceIte, Int.reduceNe, Nat.reduceEqDiff, reduceCtorEq, Nat.reduceLeDiff, Nat.reduceAdd, Nat.reduceLT])); (try simp +contextual (disch := omega) only [Z2]); (repeat' (first | (with_reducible intro h) | (with_reducible refine And.intro (by omega) ?_) | (with_reducible refine exP (by omega) ?_) | (with_reducible apply And.intro)))) <;> simp <;> omega
end Go.Proofs.YtbdmpkidcpblaaaGreat

namespace Go.Proofs.YtbdmpkidcpblaaaGreat
open Go.Gh
set_option maxRecDepth 20000
set_option linter.unusedSimpArgs false
set_option linter.unusedVariables false
theorem w300 (n : Int) : Pure Tryz.prog 300 [I n] (· = I (satV n)) := by
  refine gstart mxd i300 rfl (by simp) ?_; simp (maxSteps := 2000000) only [↓ S2, S2, vIte, ↓reduceIte, Int.reduceNe, Nat.reduceEqDiff, reduceCtorEq, Nat.reduceLeDiff, Nat.reduceAdd, Nat.reduceLT]
  ((try with_reducible refine mkQI ?_); (repeat ((first | (with_reducible refine mkQU ?_) | simp only [brGen]); try simp (maxSteps := 2000000) only [↓ S2, S2, vIte, ↓reduceIte, Int.reduceNe, Nat.reduceEqDiff, reduceCtorEq, Nat.reduceLeDiff, Nat.reduceAdd, Nat.reduceLT])); (try simp +contextual (disch := omega) only [Z2]); (repeat' (first | (with_reducible intro h) | (with_reducible refine And.intro (by omega) ?_) | (with_reducible refine exP (by omega) ?_) | (with_reducible apply And.intro)))) <;> (congr 2; simp only [satV]; omega)
theorem w301 (b : Bool) : Pure Tryz.prog 301 [B b] (· = I (trV b)) := by
  refine gstart mxd i301 rfl (by simp) ?_; simp (maxSteps := 2000000) only [↓ S2, S2, vIte, ↓reduceIte, Int.reduceNe, Nat.reduceEqDiff, reduceCtorEq, Nat.reduceLeDiff, Nat.reduceAdd, Nat.reduceLT]
  ((try with_reducible refine mkQI ?_); (repeat ((first | (with_reducible refine mkQU ?_) | simp only [brGen]); try simp (maxSteps := 2000000) only [↓ S2, S2, vIte, ↓reduceIte, Int.reduceNe, Nat.reduceEqDiff, reduceCtorEq, Nat.reduceLeDiff, Nat.reduceAdd, Nat.reduceLT])); (try simp +contextual (disch := omega) only [Z2]); (repeat' (first | (with_reducible intro h) | (with_reducible refine And.intro (by omega) ?_) | (with_reducible refine exP (by omega) ?_) | (with_reducible apply And.intro)))) <;> simp_all [trV]
theorem w274 (b : Bool) : Pure Tryz.prog 274 [B b] (· = I (trV b)) := by
  refine gstart mxd i274 rfl (by simp) ?_; simp (maxSteps := 2000000) only [↓ S2, S2, vIte, ↓reduceIte, Int.reduceNe, Nat.reduceEqDiff, reduceCtorEq, Nat.reduceLeDiff, Nat.reduceAdd, Nat.reduceLT]
  ((try with_reducible refine mkQI ?_); (repeat ((first | (with_reducible refine mkQU ?_) | simp only [brGen]); try simp (maxSteps := 2000000) only [↓ S2, S2, vIte, ↓reduceIte, Int.reduceNe, Nat.reduceEqDiff, reduceCtorEq, Nat.reduceLeDiff, Nat.reduceAdd, Nat.reduceLT])); (try simp +contextual (disch := omega) only [Z2]); (repeat' (first | (with_reducible intro h) | (with_reducible refine And.intro (by omega) ?_) | (with_reducible refine exP (by omega) ?_) | (with_reducible apply And.intro)))) <;> simp_all [trV]
theorem w273 (a b : Int) : Pure Tryz.prog 273 [I a, I b] (· = I (min a b)) := by
  refine gstart mxd i273 rfl (by simp) ?_; simp (maxSteps := 2000000) only [↓ S2, S2, vIte, ↓reduceIte, Int.reduceNe, Nat.reduceEqDiff, reduceCtorEq, Nat.reduceLeDiff, Nat.reduceAdd, Nat.reduceLT]
  ((try with_reducible refine mkQI ?_); (repeat ((first | (with_reducible refine mkQU ?_) | simp only [brGen]); try simp (maxSteps := 2000000) only [↓ S2, S2, vIte, ↓reduceIte, Int.reduceNe, Nat.reduceEqDiff, reduceCtorEq, Nat.reduceLeDiff, Nat.reduceAdd, Nat.reduceLT])); (try simp +contextual (disch := omega) only [Z2]); (repeat' (first | (with_reducible intro h) | (with_reducible refine And.intro (by omega) ?_) | (with_reducible refine exP (by omega) ?_) | (with_reducible apply And.intro)))) <;> (congr 2; omega)
theorem w272 (n : Int) : Pure Tryz.prog 272 [I n] (· = I (satV n)) := by
  refine gstart mxd i272 rfl (by simp) ?_; simp (maxSteps := 2000000) only [↓ S2, S2, vIte, ↓reduceIte, Int.reduceNe, Nat.reduceEqDiff, reduceCtorEq, Nat.reduceLeDiff, Nat.reduceAdd, Nat.reduceLT]
  refine callS.eq (w273 _ _) ?_
  ((try with_reducible refine mkQI ?_); (repeat ((first | (with_reducible refine mkQU ?_) | simp only [brGen]); try simp (maxSteps := 2000000) only [↓ S2, S2, vIte, ↓reduceIte, Int.reduceNe, Nat.reduceEqDiff, reduceCtorEq, Nat.reduceLeDiff, Nat.reduceAdd, Nat.reduceLT])); (try simp +contextual (disch := omega) only [Z2]); (repeat' (first | (with_reducible intro h) | (with_reducible refine And.intro (by omega) ?_) | (with_reducible refine exP (by omega) ?_) | (with_reducible apply And.intro))))
  refine callS.eq (w66 _ _) ?_
  ((try with_reducible refine mkQI ?_); (repeat ((first | (with_reducible refine mkQU ?_) | simp only [brGen]); try simp (maxSteps := 2000000) only [↓ S2, S2, vIte, ↓reduceIte, Int.reduceNe, Nat.reduceEqDiff, reduceCtorEq, Nat.reduceLeDiff, Nat.reduceAdd, Nat.reduceLT])); (try simp +contextual (disch := omega) only [Z2]); (repeat' (first | (with_reducible intro h) | (with_reducible refine And.intro (by omega) ?_) | (with_reducible refine exP (by omega) ?_) | (with_reducible apply And.intro)))) <;> rfl
theorem w299 (v k : Int) : Pure Tryz.prog 299 [I v, I k] (· = I (coV v k)) := by
  refine gstart mxd i299 rfl (by simp) ?_; simp (maxSteps := 2000000) only [↓ S2, S2, vIte, ↓reduceIte, Int.reduceNe, Nat.reduceEqDiff, reduceCtorEq, Nat.reduceLeDiff, Nat.reduceAdd, Nat.reduceLT]
  ((try with_reducible refine mkQI ?_); (repeat ((first | (with_reducible refine mkQU ?_) | simp only [brGen]); try simp (maxSteps := 2000000) only [↓ S2, S2, vIte, ↓reduceIte, Int.reduceNe, Nat.reduceEqDiff, reduceCtorEq, Nat.reduceLeDiff, Nat.reduceAdd, Nat.reduceLT])); (try simp +contextual (disch := omega) only [Z2]); (repeat' (first | (with_reducible intro h) | (with_reducible refine And.intro (by omega) ?_) | (with_reducible refine exP (by omega) ?_) | (with_reducible apply And.intro))))
  · refine callS.eq (w300 _) ?_
    ((try with_reducible refine mkQI ?_); (repeat ((first | (with_reducible refine mkQU ?_) | simp only [brGen]); try simp (maxSteps := 2000000) only [↓ S2, S2, vIte, ↓reduceIte, Int.reduceNe, Nat.reduceEqDiff, reduceCtorEq, Nat.reduceLeDiff, Nat.reduceAdd, Nat.reduceLT])); (try simp +contextual (disch := omega) only [Z2]); (repeat' (first | (with_reducible intro h) | (with_reducible refine And.intro (by omega) ?_) | (with_reducible refine exP (by omega) ?_) | (with_reducible apply And.intro)))) <;> simp_all [coV]
  · simp_all [coV]
  · refine callS.eq (w301 _) ?_
    ((try with_reducible refine mkQI ?_); (repeat ((first | (with_reducible refine mkQU ?_) | simp only [brGen]); try simp (maxSteps := 2000000) only [↓ S2, S2, vIte, ↓reduceIte, Int.reduceNe, Nat.reduceEqDiff, reduceCtorEq, Nat.reduceLeDiff, Nat.reduceAdd, Nat.reduceLT])); (try simp +contextual (disch := omega) only [Z2]); (repeat' (first | (with_reducible intro h) | (with_reducible refine And.intro (by omega) ?_) | (with_reducible refine exP (by omega) ?_) | (with_reducible apply And.intro)))) <;> simp_all [coV]
  · refine callS.eq (w73 _ _ _) ?_
    ((try with_reducible refine mkQI ?_); (repeat ((first | (with_reducible refine mkQU ?_) | simp only [brGen]); try simp (maxSteps := 2000000) only [↓ S2, S2, vIte, ↓reduceIte, Int.reduceNe, Nat.reduceEqDiff, reduceCtorEq, Nat.reduceLeDiff, Nat.reduceAdd, Nat.reduceLT])); (try simp +contextual (disch := omega) only [Z2]); (repeat' (first | (with_reducible intro h) | (with_reducible refine And.intro (by omega) ?_) | (with_reducible refine exP (by omega) ?_) | (with_reducible apply And.intro)))) <;> simp_all [coV] <;> (intros; omega)
  · simp_all [coV]
theorem w270 (v k : Int) : Pure Tryz.prog 270 [I v, I k] (· = I (coV v k)) := by
  refine gstart mxd i270 rfl (by simp) ?_; simp (maxSteps := 2000000) only [↓ S2, S2, vIte, ↓reduceIte, Int.reduceNe, Nat.reduceEqDiff, reduceCtorEq, Nat.reduceLeDiff, Nat.reduceAdd, Nat.reduceLT]
  ((try with_reducible refine mkQI ?_); (repeat ((first | (with_reducible refine mkQU ?_) | simp only [brGen]); try simp (maxSteps := 2000000) only [↓ S2, S2, vIte, ↓reduceIte, Int.reduceNe, Nat.reduceEqDiff, reduceCtorEq, Nat.reduceLeDiff, Nat.reduceAdd, Nat.reduceLT])); (try simp +contextual (disch := omega) only [Z2]); (repeat' (first | (with_reducible intro h) | (with_reducible refine And.intro (by omega) ?_) | (with_reducible refine exP (by omega) ?_) | (with_reducible apply And.intro))))
  · refine callS.eq (w272 _) ?_
    ((try with_reducible refine mkQI ?_); (repeat ((first | (with_reducible refine mkQU ?_) | simp only [brGen]); try simp (maxSteps := 2000000) only [↓ S2, S2, vIte, ↓reduceIte, Int.reduceNe, Nat.reduceEqDiff, reduceCtorEq, Nat.reduceLeDiff, Nat.reduceAdd, Nat.reduceLT])); (try simp +contextual (disch := omega) only [Z2]); (repeat' (first | (with_reducible intro h) | (with_reducible refine And.intro (by omega) ?_) | (with_reducible refine exP (by omega) ?_) | (with_reducible apply And.intro)))) <;> simp_all [coV]
  · simp_all [coV]
  · refine callS.eq (w274 _) ?_
    ((try with_reducible refine mkQI ?_); (repeat ((first | (with_reducible refine mkQU ?_) | simp only [brGen]); try simp (maxSteps := 2000000) only [↓ S2, S2, vIte, ↓reduceIte, Int.reduceNe, Nat.reduceEqDiff, reduceCtorEq, Nat.reduceLeDiff, Nat.reduceAdd, Nat.reduceLT])); (try simp +contextual (disch := omega) only [Z2]); (repeat' (first | (with_reducible intro h) | (with_reducible refine And.intro (by omega) ?_) | (with_reducible refine exP (by omega) ?_) | (with_reducible apply And.intro)))) <;> simp_all [coV]
  · refine callS.eq (w85 _ _ _) ?_
    ((try with_reducible refine mkQI ?_); (repeat ((first | (with_reducible refine mkQU ?_) | simp only [brGen]); try simp (maxSteps := 2000000) only [↓ S2, S2, vIte, ↓reduceIte, Int.reduceNe, Nat.reduceEqDiff, reduceCtorEq, Nat.reduceLeDiff, Nat.reduceAdd, Nat.reduceLT])); (try simp +contextual (disch := omega) only [Z2]); (repeat' (first | (with_reducible intro h) | (with_reducible refine And.intro (by omega) ?_) | (with_reducible refine exP (by omega) ?_) | (with_reducible apply And.intro)))) <;> simp_all [coV] <;> (intros; omega)
  · simp_all [coV]
theorem w175 (op : Int) : Pure Tryz.prog 175 [I op] (· = opG op) := by
  refine gstart mxd i175 rfl (by simp) ?_; simp (maxSteps := 2000000) only [↓ S2, S2, vIte, ↓reduceIte, Int.reduceNe, Nat.reduceEqDiff, reduceCtorEq, Nat.reduceLeDiff, Nat.reduceAdd, Nat.reduceLT]
  ((try with_reducible refine mkQI ?_); (repeat ((first | (with_reducible refine mkQU ?_) | simp only [brGen]); try simp (maxSteps := 2000000) only [↓ S2, S2, vIte, ↓reduceIte, Int.reduceNe, Nat.reduceEqDiff, reduceCtorEq, Nat.reduceLeDiff, Nat.reduceAdd, Nat.reduceLT])); (try simp +contextual (disch := omega) only [Z2]); (repeat' (first | (with_reducible intro h) | (with_reducible refine And.intro (by omega) ?_) | (with_reducible refine exP (by omega) ?_) | (with_reducible apply And.intro))))
  all_goals first | (subst op; rfl) | (rw [opG0 (by omega)])
theorem w220 (op : Int) : Pure Tryz.prog 220 [I op] (· = opG op) := by
  refine gstart mxd i220 rfl (by simp) ?_; simp (maxSteps := 2000000) only [↓ S2, S2, vIte, ↓reduceIte, Int.reduceNe, Nat.reduceEqDiff, reduceCtorEq, Nat.reduceLeDiff, Nat.reduceAdd, Nat.reduceLT]
  refine callS.eq (w85 _ _ _) ?_
  ((try with_reducible refine mkQI ?_); (repeat ((first | (with_reducible refine mkQU ?_) | simp only [brGen]); try simp (maxSteps := 2000000) only [↓ S2, S2, vIte, ↓reduceIte, Int.reduceNe, Nat.reduceEqDiff, reduceCtorEq, Nat.reduceLeDiff, Nat.reduceAdd, Nat.reduceLT])); (try simp +contextual (disch := omega) only [Z2]); (repeat' (first | (with_reducible intro h) | (with_reducible refine And.intro (by omega) ?_) | (with_reducible refine exP (by omega) ?_) | (with_reducible apply And.intro))))
  · simp only [opG, opT, if_pos h]
  refine callS.eq (w85 _ _ _) ?_
  ((try with_reducible refine mkQI ?_); (repeat ((first | (with_reducible refine mkQU ?_) | simp only [brGen]); try simp (maxSteps := 2000000) only [↓ S2, S2, vIte, ↓reduceIte, Int.reduceNe, Nat.reduceEqDiff, reduceCtorEq, Nat.reduceLeDiff, Nat.reduceAdd, Nat.reduceLT])); (try simp +contextual (disch := omega) only [Z2]); (repeat' (first | (with_reducible intro h) | (with_reducible refine And.intro (by omega) ?_) | (with_reducible refine exP (by omega) ?_) | (with_reducible apply And.intro))))
  all_goals first | (simp only [opG, opT]; rw [if_neg (by assumption), if_pos (by assumption)]; done) | (subst op; rfl) | (rw [opG0 (by omega)]; done) | (simp_all [opG, opT]; done) | skip
theorem w265 (k : Int) : Pure Tryz.prog 265 [I k] (· = B (decide (1 ≤ k ∧ k ≤ 4))) := by
  refine gstart mxd i265 rfl (by simp) ?_; simp (maxSteps := 2000000) only [↓ S2, S2, vIte, ↓reduceIte, Int.reduceNe, Nat.reduceEqDiff, reduceCtorEq, Nat.reduceLeDiff, Nat.reduceAdd, Nat.reduceLT]
  refine callS.eq (w73 _ _ _) ?_
  ((try with_reducible refine mkQI ?_); (repeat ((first | (with_reducible refine mkQU ?_) | simp only [brGen]); try simp (maxSteps := 2000000) only [↓ S2, S2, vIte, ↓reduceIte, Int.reduceNe, Nat.reduceEqDiff, reduceCtorEq, Nat.reduceLeDiff, Nat.reduceAdd, Nat.reduceLT])); (try simp +contextual (disch := omega) only [Z2]); (repeat' (first | (with_reducible intro h) | (with_reducible refine And.intro (by omega) ?_) | (with_reducible refine exP (by omega) ?_) | (with_reducible apply And.intro))))
theorem w297 (v k : Int) : Pure Tryz.prog 297 [I v, I k] (· = B (okV v k)) := by
  refine gstart mxd i297 rfl (by simp) ?_; simp (maxSteps := 2000000) only [↓ S2, S2, vIte, ↓reduceIte, Int.reduceNe, Nat.reduceEqDiff, reduceCtorEq, Nat.reduceLeDiff, Nat.reduceAdd, Nat.reduceLT]
  refine callS.eq (w265 _) ?_
  ((try with_reducible refine mkQI ?_); (repeat ((first | (with_reducible refine mkQU ?_) | simp only [brGen]); try simp (maxSteps := 2000000) only [↓ S2, S2, vIte, ↓reduceIte, Int.reduceNe, Nat.reduceEqDiff, reduceCtorEq, Nat.reduceLeDiff, Nat.reduceAdd, Nat.reduceLT])); (try simp +contextual (disch := omega) only [Z2]); (repeat' (first | (with_reducible intro h) | (with_reducible refine And.intro (by omega) ?_) | (with_reducible refine exP (by omega) ?_) | (with_reducible apply And.intro))))
  · refine callS.eq (w299 _ _) ?_
    ((try with_reducible refine mkQI ?_); (repeat ((first | (with_reducible refine mkQU ?_) | simp only [brGen]); try simp (maxSteps := 2000000) only [↓ S2, S2, vIte, ↓reduceIte, Int.reduceNe, Nat.reduceEqDiff, reduceCtorEq, Nat.reduceLeDiff, Nat.reduceAdd, Nat.reduceLT])); (try simp +contextual (disch := omega) only [Z2]); (repeat' (first | (with_reducible intro h) | (with_reducible refine And.intro (by omega) ?_) | (with_reducible refine exP (by omega) ?_) | (with_reducible apply And.intro)))) <;> simp_all [okV]
  · simp_all [okV] <;> (intros; omega)
theorem w230 (v k : Int) : Pure Tryz.prog 230 [I v, I k] (· = B (okV v k)) := by
  refine gstart mxd i230 rfl (by simp) ?_; simp (maxSteps := 2000000) only [↓ S2, S2, vIte, ↓reduceIte, Int.reduceNe, Nat.reduceEqDiff, reduceCtorEq, Nat.reduceLeDiff, Nat.reduceAdd, Nat.reduceLT]
  refine callS.eq (w85 _ _ _) ?_
  ((try with_reducible refine mkQI ?_); (repeat ((first | (with_reducible refine mkQU ?_) | simp only [brGen]); try simp (maxSteps := 2000000) only [↓ S2, S2, vIte, ↓reduceIte, Int.reduceNe, Nat.reduceEqDiff, reduceCtorEq, Nat.reduceLeDiff, Nat.reduceAdd, Nat.reduceLT])); (try simp +contextual (disch := omega) only [Z2]); (repeat' (first | (with_reducible intro h) | (with_reducible refine And.intro (by omega) ?_) | (with_reducible refine exP (by omega) ?_) | (with_reducible apply And.intro))))
  · refine callS.eq (w270 _ _) ?_
    ((try with_reducible refine mkQI ?_); (repeat ((first | (with_reducible refine mkQU ?_) | simp only [brGen]); try simp (maxSteps := 2000000) only [↓ S2, S2, vIte, ↓reduceIte, Int.reduceNe, Nat.reduceEqDiff, reduceCtorEq, Nat.reduceLeDiff, Nat.reduceAdd, Nat.reduceLT])); (try simp +contextual (disch := omega) only [Z2]); (repeat' (first | (with_reducible intro h) | (with_reducible refine And.intro (by omega) ?_) | (with_reducible refine exP (by omega) ?_) | (with_reducible apply And.intro)))) <;> simp_all [okV]
  · simp_all [okV] <;> (intros; omega)
end Go.Proofs.YtbdmpkidcpblaaaGreat

namespace Go.Proofs.YtbdmpkidcpblaaaGreat
open Go.Gh
set_option maxRecDepth 20000
set_option linter.unusedSimpArgs false
set_option linter.unusedVariables false
end Go.Proofs.YtbdmpkidcpblaaaGreat

namespace Go.Proofs.YtbdmpkidcpblaaaGreat
open Go.Gh
set_option maxRecDepth 20000
set_option linter.unusedSimpArgs false
set_option linter.unusedVariables false
theorem w275 : ∀ (e : Exp), wEx e ≤ 1048576 → Pure Tryz.prog 275 [Ex e] (· = I (cntE e)) := by
  refine Exp.indA fun e ih hw => ?_
  obtain ⟨hl, ha⟩ := args_small hw
  have hc := cntE_le e
  have he := cntE_eq e
  rw [Ex_eq]
  refine gstart mxd i275 rfl (by simp) ?_; simp (maxSteps := 2000000) only [↓ S2, S2, vIte, ↓reduceIte, Int.reduceNe, Nat.reduceEqDiff, reduceCtorEq, Nat.reduceLeDiff, Nat.reduceAdd, Nat.reduceLT]
  refine wloop mxd (ι := { i : Nat // i ≤ e.args.length }) (fun i => [(3, I ((1 + ((e.args.take i.1).map cntE).sum : Nat) : Int)), (7, ExS e.args), (8, I e.args.length), (9, I i.1)]) (fun i => []) (fun i => e.args.length - i.1) ⟨0, by simp⟩ (by simp [E2, mxL]) (by simp) ?_
  rintro ⟨i, hi⟩
  have h1 := sumT_le cntE e.args i
  have h3 := sumT_le cntE e.args (i + 1)
  ((try with_reducible refine mkQI ?_); (repeat ((first | (with_reducible refine mkQU ?_) | simp only [brGen]); try simp (maxSteps := 2000000) only [↓ S2, S2, vIte, ↓reduceIte, Int.reduceNe, Nat.reduceEqDiff, reduceCtorEq, Nat.reduceLeDiff, Nat.reduceAdd, Nat.reduceLT, isAgg_Ex, geR_Ex, gsize_Ex, stor_Ex])); (try simp +contextual (disch := omega) only [Z2, isAgg_Ex, geR_Ex, gsize_Ex, stor_Ex]); (repeat' (first | (with_reducible intro h) | (with_reducible refine And.intro (by omega) ?_) | (with_reducible refine exP (by omega) ?_) | (with_reducible apply And.intro))))
  · have h2 := sumT cntE e.args i (by omega)
    refine callS.eq (ih _ (List.getElem_mem _) (ha _ (List.getElem_mem _))) ?_
    ((try with_reducible refine mkQI ?_); (repeat ((first | (with_reducible refine mkQU ?_) | simp only [brGen]); try simp (maxSteps := 2000000) only [↓ S2, S2, vIte, ↓reduceIte, Int.reduceNe, Nat.reduceEqDiff, reduceCtorEq, Nat.reduceLeDiff, Nat.reduceAdd, Nat.reduceLT])); (try simp +contextual (disch := omega) only [Z2]); (repeat' (first | (with_reducible intro h) | (with_reducible refine And.intro (by omega) ?_) | (with_reducible refine exP (by omega) ?_) | (with_reducible apply And.intro))))
    refine nx ⟨i + 1, by omega⟩ (by simp; omega) ?_ (by simp)
    simp [E2, h2, -List.map_take]
    try (first | omega | (split <;> omega))
  · have : i = e.args.length := by omega
    subst this
    simp [he]
theorem w276 : ∀ (e : Exp), wEx e ≤ 1048576 → Pure Tryz.prog 276 [Ex e] (· = I (dpE e)) := by
  refine Exp.indA fun e ih hw => ?_
  obtain ⟨hl, ha⟩ := args_small hw
  have hc := cntE_le e
  have he := cntE_eq e
  have hd := dpE_eq e
  have hq := sumL_le (l := e.args) fun a _ => dpE_le a
  rw [Ex_eq]
  refine gstart mxd i276 rfl (by simp) ?_; simp (maxSteps := 2000000) only [↓ S2, S2, vIte, ↓reduceIte, Int.reduceNe, Nat.reduceEqDiff, reduceCtorEq, Nat.reduceLeDiff, Nat.reduceAdd, Nat.reduceLT]
  refine wloop mxd (ι := { i : Nat // i ≤ e.args.length }) (fun i => [(3, I (mxL ((e.args.take i.1).map dpE))), (7, ExS e.args), (8, I e.args.length), (9, I i.1)]) (fun i => []) (fun i => e.args.length - i.1) ⟨0, by simp⟩ (by simp [E2, mxL]) (by simp) ?_
  rintro ⟨i, hi⟩
  have h1 := mxT_le dpE e.args i
  ((try with_reducible refine mkQI ?_); (repeat ((first | (with_reducible refine mkQU ?_) | simp only [brGen]); try simp (maxSteps := 2000000) only [↓ S2, S2, vIte, ↓reduceIte, Int.reduceNe, Nat.reduceEqDiff, reduceCtorEq, Nat.reduceLeDiff, Nat.reduceAdd, Nat.reduceLT, isAgg_Ex, geR_Ex, gsize_Ex, stor_Ex])); (try simp +contextual (disch := omega) only [Z2, isAgg_Ex, geR_Ex, gsize_Ex, stor_Ex]); (repeat' (first | (with_reducible intro h) | (with_reducible refine And.intro (by omega) ?_) | (with_reducible refine exP (by omega) ?_) | (with_reducible apply And.intro))))
  · have h2 := mxT dpE e.args i (by omega)
    refine callS.eq (ih _ (List.getElem_mem _) (ha _ (List.getElem_mem _))) ?_
    ((try with_reducible refine mkQI ?_); (repeat ((first | (with_reducible refine mkQU ?_) | simp only [brGen]); try simp (maxSteps := 2000000) only [↓ S2, S2, vIte, ↓reduceIte, Int.reduceNe, Nat.reduceEqDiff, reduceCtorEq, Nat.reduceLeDiff, Nat.reduceAdd, Nat.reduceLT])); (try simp +contextual (disch := omega) only [Z2]); (repeat' (first | (with_reducible intro h) | (with_reducible refine And.intro (by omega) ?_) | (with_reducible refine exP (by omega) ?_) | (with_reducible apply And.intro))))
    refine nx ⟨i + 1, by omega⟩ (by simp; omega) ?_ (by simp)
    simp [E2, h2, -List.map_take]
    try (first | omega | (split <;> omega))
  · have : i = e.args.length := by omega
    subst this
    simp [hd]
    try omega
theorem w234 : ∀ (e : Exp), wEx e ≤ 1048576 → Pure Tryz.prog 234 [Ex e] (· = I (dpE e)) := by
  refine Exp.indA fun e ih hw => ?_
  obtain ⟨hl, ha⟩ := args_small hw
  have hc := cntE_le e
  have he := cntE_eq e
  have hd := dpE_eq e
  have hq := sumL_le (l := e.args) fun a _ => dpE_le a
  rw [Ex_eq]
  refine gstart mxd i234 rfl (by simp) ?_; simp (maxSteps := 2000000) only [↓ S2, S2, vIte, ↓reduceIte, Int.reduceNe, Nat.reduceEqDiff, reduceCtorEq, Nat.reduceLeDiff, Nat.reduceAdd, Nat.reduceLT]
  refine wloop mxd (ι := { i : Nat // i ≤ e.args.length }) (fun i => [(1, .rop 7 (.agg [I e.kind, I e.n, I e.pos, I e.type, T e.sym, T e.name, ExS e.args])), (3, I (mxL ((e.args.take i.1).map dpE))), (4, I i.1)]) (fun i => []) (fun i => e.args.length - i.1) ⟨0, by simp⟩ (by simp [E2, mxL]) (by simp) ?_
  rintro ⟨i, hi⟩
  have h1 := mxT_le dpE e.args i
  ((try with_reducible refine mkQI ?_); (repeat ((first | (with_reducible refine mkQU ?_) | simp only [brGen]); try simp (maxSteps := 2000000) only [↓ S2, S2, vIte, ↓reduceIte, Int.reduceNe, Nat.reduceEqDiff, reduceCtorEq, Nat.reduceLeDiff, Nat.reduceAdd, Nat.reduceLT, isAgg_Ex, geR_Ex, gsize_Ex, stor_Ex])); (try simp +contextual (disch := omega) only [Z2, isAgg_Ex, geR_Ex, gsize_Ex, stor_Ex]); (repeat' (first | (with_reducible intro h) | (with_reducible refine And.intro (by omega) ?_) | (with_reducible refine exP (by omega) ?_) | (with_reducible apply And.intro))))
  · have h2 := mxT dpE e.args i (by omega)
    refine callS.eq (ih _ (List.getElem_mem _) (ha _ (List.getElem_mem _))) ?_
    ((try with_reducible refine mkQI ?_); (repeat ((first | (with_reducible refine mkQU ?_) | simp only [brGen]); try simp (maxSteps := 2000000) only [↓ S2, S2, vIte, ↓reduceIte, Int.reduceNe, Nat.reduceEqDiff, reduceCtorEq, Nat.reduceLeDiff, Nat.reduceAdd, Nat.reduceLT])); (try simp +contextual (disch := omega) only [Z2]); (repeat' (first | (with_reducible intro h) | (with_reducible refine And.intro (by omega) ?_) | (with_reducible refine exP (by omega) ?_) | (with_reducible apply And.intro))))
    refine callS.eq (w66 _ _) ?_
    ((try with_reducible refine mkQI ?_); (repeat ((first | (with_reducible refine mkQU ?_) | simp only [brGen]); try simp (maxSteps := 2000000) only [↓ S2, S2, vIte, ↓reduceIte, Int.reduceNe, Nat.reduceEqDiff, reduceCtorEq, Nat.reduceLeDiff, Nat.reduceAdd, Nat.reduceLT])); (try simp +contextual (disch := omega) only [Z2]); (repeat' (first | (with_reducible intro h) | (with_reducible refine And.intro (by omega) ?_) | (with_reducible refine exP (by omega) ?_) | (with_reducible apply And.intro))))
    refine nx ⟨i + 1, by omega⟩ (by simp; omega) ?_ (by simp)
    simp [E2, h2, -List.map_take]
    try (first | omega | (split <;> omega))
  · have : i = e.args.length := by omega
    subst this
    simp [hd]
    try omega
theorem w233 : ∀ (e : Exp), wEx e ≤ 1048576 → ∀ left : Int, 0 ≤ left → left ≤ 1048576 → Pure Tryz.prog 233 [Ex e, I left] (· = I (max (left - cntE e) (-1))) := by
  refine Exp.indA fun e ih hw left l0 l1 => ?_
  obtain ⟨hl, ha⟩ := args_small hw
  have hc := cntE_le e
  have he := cntE_eq e
  rw [Ex_eq]
  refine gstart mxd i233 rfl (by simp) ?_; simp (maxSteps := 2000000) only [↓ S2, S2, vIte, ↓reduceIte, Int.reduceNe, Nat.reduceEqDiff, reduceCtorEq, Nat.reduceLeDiff, Nat.reduceAdd, Nat.reduceLT]
  simp +contextual (disch := omega) only [Z2]
  refine wloop mxd (ι := { i : Nat // i ≤ e.args.length }) (fun i => [(2, .rop 7 (.agg [I e.kind, I e.n, I e.pos, I e.type, T e.sym, T e.name, ExS e.args])), (1, I (max (left - 1 - ((e.args.take i.1).map cntE).sum) (-1))), (5, I i.1)]) (fun i => []) (fun i => e.args.length - i.1) ⟨0, by simp⟩ (by simp [E2]; try omega) (by simp) ?_
  rintro ⟨i, hi⟩
  have h1 := sumT_le cntE e.args i
  generalize hs : ((e.args.take i).map cntE).sum = s at *
  ((try with_reducible refine mkQI ?_); (repeat ((first | (with_reducible refine mkQU ?_) | simp only [brGen]); try simp (maxSteps := 2000000) only [↓ S2, S2, vIte, ↓reduceIte, Int.reduceNe, Nat.reduceEqDiff, reduceCtorEq, Nat.reduceLeDiff, Nat.reduceAdd, Nat.reduceLT, isAgg_Ex, geR_Ex, gsize_Ex, stor_Ex])); (try simp +contextual (disch := omega) only [Z2, isAgg_Ex, geR_Ex, gsize_Ex, stor_Ex]); (repeat' (first | (with_reducible intro h) | (with_reducible refine And.intro (by omega) ?_) | (with_reducible refine exP (by omega) ?_) | (with_reducible apply And.intro))))
  · have h2 := sumT cntE e.args i (by omega)
    refine callS.eq (ih _ (List.getElem_mem _) (ha _ (List.getElem_mem _)) _ (by omega) (by omega)) ?_
    ((try with_reducible refine mkQI ?_); (repeat ((first | (with_reducible refine mkQU ?_) | simp only [brGen]); try simp (maxSteps := 2000000) only [↓ S2, S2, vIte, ↓reduceIte, Int.reduceNe, Nat.reduceEqDiff, reduceCtorEq, Nat.reduceLeDiff, Nat.reduceAdd, Nat.reduceLT])); (try simp +contextual (disch := omega) only [Z2]); (repeat' (first | (with_reducible intro h) | (with_reducible refine And.intro (by omega) ?_) | (with_reducible refine exP (by omega) ?_) | (with_reducible apply And.intro))))
    refine nx ⟨i + 1, by omega⟩ (by simp; omega) ?_ (by simp)
    simp [E2, h2, hs, -List.map_take]
    try omega
  all_goals first | (congr 2; omega) | (rw [List.take_of_length_le (by omega)] at hs; congr 2; omega)
end Go.Proofs.YtbdmpkidcpblaaaGreat

namespace Go.Proofs.YtbdmpkidcpblaaaGreat
open Go.Gh
set_option maxRecDepth 20000
set_option linter.unusedSimpArgs false
set_option linter.unusedVariables false
theorem w156 (x : Sym) (hx : smSy x) : Pure Tryz.prog 156 [Sy x] (· = Sy x) := by
  unfold smSy at hx
  refine Pure.bor ?_
  refine gstart mxd i156 rfl (by simp) ?_; simp (maxSteps := 2000000) only [↓ S2, S2, vIte, ↓reduceIte, Int.reduceNe, Nat.reduceEqDiff, reduceCtorEq, Nat.reduceLeDiff, Nat.reduceAdd, Nat.reduceLT]
  ((try with_reducible refine mkQI ?_); (repeat ((first | (with_reducible refine mkQU ?_) | simp only [brGen]); try simp (maxSteps := 2000000) only [↓ S2, S2, vIte, ↓reduceIte, Int.reduceNe, Nat.reduceEqDiff, reduceCtorEq, Nat.reduceLeDiff, Nat.reduceAdd, Nat.reduceLT])); (try simp +contextual (disch := omega) only [Z2]); (repeat' (first | (with_reducible intro h) | (with_reducible refine And.intro (by omega) ?_) | (with_reducible refine exP (by omega) ?_) | (with_reducible apply And.intro))))
  exact .agg (.cons .refl (.cons (Bor.allM (fun _ => rfl) hget_new rfl) .nil))
theorem w91 (g : Gram) (s : ByteArray) (hg : smGr g) : Pure Tryz.prog 91 [Gr g, T s] (· = .tup [Sy (fSym g.syms s), B (hSym g.syms s)]) := by
  refine Pure.bor ?_
  have hlen := hg.1
  refine gstart mxd i91 rfl (by simp) ?_; simp (maxSteps := 2000000) only [↓ S2, S2, vIte, ↓reduceIte, Int.reduceNe, Nat.reduceEqDiff, reduceCtorEq, Nat.reduceLeDiff, Nat.reduceAdd, Nat.reduceLT]
  refine wloop mxd (ι := { i : Nat // i ≤ g.syms.length ∧ ∀ y ∈ g.syms.take i, decide (y.name = s) = false }) (fun i => [(1, T s), (2, .rop 2 (Gr g)), (4, .raw 2), (6, I i.1)]) (fun _ => []) (fun i => g.syms.length - i.1) ⟨0, by simp⟩ (by simp [E2]) rfl ?_
  rintro ⟨i, hi, hn⟩
  ((try with_reducible refine mkQI ?_); (repeat ((first | (with_reducible refine mkQU ?_) | simp only [brGen]); try simp (maxSteps := 2000000) only [↓ S2, S2, vIte, ↓reduceIte, Int.reduceNe, Nat.reduceEqDiff, reduceCtorEq, Nat.reduceLeDiff, Nat.reduceAdd, Nat.reduceLT])); (try simp +contextual (disch := omega) only [Z2]); (repeat' (first | (with_reducible intro h) | (with_reducible refine And.intro (by omega) ?_) | (with_reducible refine exP (by omega) ?_) | (with_reducible apply And.intro))))
  · subst h
    refine callS.eq (w156 g.syms[i] (hg.2.2.1 _ (List.getElem_mem _))) ?_
    ((try with_reducible refine mkQI ?_); (repeat ((first | (with_reducible refine mkQU ?_) | simp only [brGen]); try simp (maxSteps := 2000000) only [↓ S2, S2, vIte, ↓reduceIte, Int.reduceNe, Nat.reduceEqDiff, reduceCtorEq, Nat.reduceLeDiff, Nat.reduceAdd, Nat.reduceLT])); (try simp +contextual (disch := omega) only [Z2]); (repeat' (first | (with_reducible intro h) | (with_reducible refine And.intro (by omega) ?_) | (with_reducible refine exP (by omega) ?_) | (with_reducible apply And.intro))))
    have e := find_hit (p := fun x : Sym => decide (x.name = g.syms[i].name)) (xs := g.syms) (i := i) (by assumption) (by simp) hn
    simp only [fSym, hSym, e]
    exact .refl
  · exact nx ⟨i + 1, by omega, take_step (by assumption) (by simp [*]) hn⟩ (by simp; omega) (by simp [E2]) rfl
  · have : i = g.syms.length := by omega
    subst this
    rw [List.take_of_length_le (Nat.le_refl _)] at hn
    have e := find_none hn
    simp only [fSym, hSym, e]
    exact .tup (.cons (.agg (.cons .refl (.cons .nil .nil))) (.cons .refl .nil))
theorem w92 (g : Sym) (s : ByteArray) (hg : smSy g) : Pure Tryz.prog 92 [Sy g, T s] (· = .tup [At (fAtt g.atts s), B (hAtt g.atts s)]) := by
  unfold smSy at hg
  refine gstart mxd i92 rfl (by simp) ?_; simp (maxSteps := 2000000) only [↓ S2, S2, vIte, ↓reduceIte, Int.reduceNe, Nat.reduceEqDiff, reduceCtorEq, Nat.reduceLeDiff, Nat.reduceAdd, Nat.reduceLT]
  refine wloop mxd (ι := { i : Nat // i ≤ g.atts.length ∧ ∀ y ∈ g.atts.take i, decide (y.name = s) = false }) (fun i => [(1, T s), (2, .rop 2 (Sy g)), (4, .raw 4), (6, I i.1)]) (fun _ => []) (fun i => g.atts.length - i.1) ⟨0, by simp⟩ (by simp [E2]) rfl ?_
  rintro ⟨i, hi, hn⟩
  ((try with_reducible refine mkQI ?_); (repeat ((first | (with_reducible refine mkQU ?_) | simp only [brGen]); try simp (maxSteps := 2000000) only [↓ S2, S2, vIte, ↓reduceIte, Int.reduceNe, Nat.reduceEqDiff, reduceCtorEq, Nat.reduceLeDiff, Nat.reduceAdd, Nat.reduceLT])); (try simp +contextual (disch := omega) only [Z2]); (repeat' (first | (with_reducible intro h) | (with_reducible refine And.intro (by omega) ?_) | (with_reducible refine exP (by omega) ?_) | (with_reducible apply And.intro))))
  · subst h
    have e := find_hit (p := fun x : Att => decide (x.name = g.atts[i].name)) (xs := g.atts) (i := i) (by assumption) (by simp) hn
    simp only [fAtt, hAtt, e]
    rfl
  · exact nx ⟨i + 1, by omega, take_step (by assumption) (by simp [*]) hn⟩ (by simp; omega) (by simp [E2]) rfl
  · have : i = g.atts.length := by omega
    subst this
    rw [List.take_of_length_le (Nat.le_refl _)] at hn
    have e := find_none hn
    simp only [fAtt, hAtt, e]
    rfl
theorem w103 (g : Gram) (s : ByteArray) (hg : smGr g) : Pure Tryz.prog 103 [Gr g, T s] (· = .tup [Sy (fSym g.syms s), B (hSym g.syms s)]) := by
  refine Pure.bor ?_
  have hlen := hg.1
  refine gstart mxd i103 rfl (by simp) ?_; simp (maxSteps := 2000000) only [↓ S2, S2, vIte, ↓reduceIte, Int.reduceNe, Nat.reduceEqDiff, reduceCtorEq, Nat.reduceLeDiff, Nat.reduceAdd, Nat.reduceLT]
  refine wloop mxd (ι := { i : Nat // i ≤ g.syms.length ∧ ∀ y ∈ g.syms.take i, decide (y.name = s) = false }) (fun i => [(1, T s), (4, .raw 2), (9, SyS g.syms), (10, I g.syms.length), (11, I i.1)]) (fun _ => []) (fun i => g.syms.length - i.1) ⟨0, by simp⟩ (by simp [E2]) rfl ?_
  rintro ⟨i, hi, hn⟩
  ((try with_reducible refine mkQI ?_); (repeat ((first | (with_reducible refine mkQU ?_) | simp only [brGen]); try simp (maxSteps := 2000000) only [↓ S2, S2, vIte, ↓reduceIte, Int.reduceNe, Nat.reduceEqDiff, reduceCtorEq, Nat.reduceLeDiff, Nat.reduceAdd, Nat.reduceLT])); (try simp +contextual (disch := omega) only [Z2]); (repeat' (first | (with_reducible intro h) | (with_reducible refine And.intro (by omega) ?_) | (with_reducible refine exP (by omega) ?_) | (with_reducible apply And.intro))))
  · subst h
    have e := find_hit (p := fun x : Sym => decide (x.name = g.syms[i].name)) (xs := g.syms) (i := i) (by assumption) (by simp) hn
    simp only [fSym, hSym, e]
    exact .refl
  · exact nx ⟨i + 1, by omega, take_step (by assumption) (by simp [*]) hn⟩ (by simp; omega) (by simp [E2]) rfl
  · have : i = g.syms.length := by omega
    subst this
    rw [List.take_of_length_le (Nat.le_refl _)] at hn
    have e := find_none hn
    simp only [fSym, hSym, e]
    exact .tup (.cons (.agg (.cons .refl (.cons .nil .nil))) (.cons .refl .nil))
theorem w104 (g : Sym) (s : ByteArray) (hg : smSy g) : Pure Tryz.prog 104 [Sy g, T s] (· = .tup [At (fAtt g.atts s), B (hAtt g.atts s)]) := by
  unfold smSy at hg
  refine gstart mxd i104 rfl (by simp) ?_; simp (maxSteps := 2000000) only [↓ S2, S2, vIte, ↓reduceIte, Int.reduceNe, Nat.reduceEqDiff, reduceCtorEq, Nat.reduceLeDiff, Nat.reduceAdd, Nat.reduceLT]
  refine wloop mxd (ι := { i : Nat // i ≤ g.atts.length ∧ ∀ y ∈ g.atts.take i, decide (y.name = s) = false }) (fun i => [(1, T s), (4, .raw 4), (9, AtS g.atts), (10, I g.atts.length), (11, I i.1)]) (fun _ => []) (fun i => g.atts.length - i.1) ⟨0, by simp⟩ (by simp [E2]) rfl ?_
  rintro ⟨i, hi, hn⟩
  ((try with_reducible refine mkQI ?_); (repeat ((first | (with_reducible refine mkQU ?_) | simp only [brGen]); try simp (maxSteps := 2000000) only [↓ S2, S2, vIte, ↓reduceIte, Int.reduceNe, Nat.reduceEqDiff, reduceCtorEq, Nat.reduceLeDiff, Nat.reduceAdd, Nat.reduceLT])); (try simp +contextual (disch := omega) only [Z2]); (repeat' (first | (with_reducible intro h) | (with_reducible refine And.intro (by omega) ?_) | (with_reducible refine exP (by omega) ?_) | (with_reducible apply And.intro))))
  · subst h
    have e := find_hit (p := fun x : Att => decide (x.name = g.atts[i].name)) (xs := g.atts) (i := i) (by assumption) (by simp) hn
    simp only [fAtt, hAtt, e]
    rfl
  · exact nx ⟨i + 1, by omega, take_step (by assumption) (by simp [*]) hn⟩ (by simp; omega) (by simp [E2]) rfl
  · have : i = g.atts.length := by omega
    subst this
    rw [List.take_of_length_le (Nat.le_refl _)] at hn
    have e := find_none hn
    simp only [fAtt, hAtt, e]
    rfl
theorem w232 : ∀ (e : Exp), wEx e ≤ 1048576 → Pure Tryz.prog 232 [Ex e] (· = Ex e) := by
  refine Exp.indA fun e ih hw => ?_
  obtain ⟨hl, ha⟩ := args_small hw
  refine Pure.bor ?_
  refine gstart mxd i232 rfl (by simp) ?_; simp (maxSteps := 2000000) only [↓ S2, S2, vIte, ↓reduceIte, Int.reduceNe, Nat.reduceEqDiff, reduceCtorEq, Nat.reduceLeDiff, Nat.reduceAdd, Nat.reduceLT]
  ((try with_reducible refine mkQI ?_); (repeat ((first | (with_reducible refine mkQU ?_) | simp only [brGen]); try simp (maxSteps := 2000000) only [↓ S2, S2, vIte, ↓reduceIte, Int.reduceNe, Nat.reduceEqDiff, reduceCtorEq, Nat.reduceLeDiff, Nat.reduceAdd, Nat.reduceLT, XE])); (try simp +contextual (disch := omega) only [Z2, XE]); (repeat' (first | (with_reducible intro h) | (with_reducible refine And.intro (by omega) ?_) | (with_reducible refine exP (by omega) ?_) | (with_reducible apply And.intro))))
  rename_i r hr q
  have h0 := neH_of h
  (replace h0 := h0; simp only [neH_cons, neH_nil, neA_cons, neA_nil, and_true, true_and] at h0)
  refine ploop mxd (ι := { x : Nat × Nat // x.2 ≤ e.args.length }) (fun x => [(1, .ptr r 7 0 0), (2, .raw 7), (3, .own x.1.1 7 0 x.1.2), (4, I x.1.2)]) (fun x => [(x.1.1, 7, (e.args.take x.1.2).map Ex), (r, 7, [Ex e])]) (fun x => e.args.length - x.1.2) ⟨(q, 0), by simp⟩ (by simp [E2]) (by simp [subH, hget, names, h0]) ?_
  rintro ⟨⟨q, i⟩, hi⟩ hn
  dsimp only at hi hn ⊢
  (replace hn := hn; simp only [neH_cons, neH_nil, neA_cons, neA_nil, and_true, true_and] at hn)
  ((try with_reducible refine mkQI ?_); (repeat ((first | (with_reducible refine mkQU ?_) | simp only [brGen]); try simp (maxSteps := 2000000) only [↓ S2, S2, vIte, ↓reduceIte, Int.reduceNe, Nat.reduceEqDiff, reduceCtorEq, Nat.reduceLeDiff, Nat.reduceAdd, Nat.reduceLT, XE, hget_c, hset_c, hdel_c, hn, t_ldf])); (try simp +contextual (disch := omega) only [Z2, XE, hget_c, hset_c, hdel_c, hn, t_ldf]); (repeat' (first | (with_reducible intro h) | (with_reducible refine And.intro (by omega) ?_) | (with_reducible refine exP (by omega) ?_) | (with_reducible apply And.intro))))
  · refine callS.eq (ih _ (List.getElem_mem _) (ha _ (List.getElem_mem _))) ?_
    ((try with_reducible refine mkQI ?_); (repeat ((first | (with_reducible refine mkQU ?_) | simp only [brGen]); try simp (maxSteps := 2000000) only [↓ S2, S2, vIte, ↓reduceIte, Int.reduceNe, Nat.reduceEqDiff, reduceCtorEq, Nat.reduceLeDiff, Nat.reduceAdd, Nat.reduceLT, XE, hget_c, hset_c, hdel_c, hn, t_ldf])); (try simp +contextual (disch := omega) only [Z2, XE, hget_c, hset_c, hdel_c, hn, t_ldf]); (repeat' (first | (with_reducible intro h) | (with_reducible refine And.intro (by omega) ?_) | (with_reducible refine exP (by omega) ?_) | (with_reducible apply And.intro))))
    rename_i q2
    have h2 := neH_of h
    (replace h2 := h2; simp only [neH_cons, neH_nil, neA_cons, neA_nil, and_true, true_and] at h2)
    ((try with_reducible refine mkQI ?_); (repeat ((first | (with_reducible refine mkQU ?_) | simp only [brGen]); try simp (maxSteps := 2000000) only [↓ S2, S2, vIte, ↓reduceIte, Int.reduceNe, Nat.reduceEqDiff, reduceCtorEq, Nat.reduceLeDiff, Nat.reduceAdd, Nat.reduceLT, XE, hget_c, hset_c, hdel_c, hn, h2, t_ldf])); (try simp +contextual (disch := omega) only [Z2, XE, hget_c, hset_c, hdel_c, hn, h2, t_ldf]); (repeat' (first | (with_reducible intro h) | (with_reducible refine And.intro (by omega) ?_) | (with_reducible refine exP (by omega) ?_) | (with_reducible apply And.intro))))
    · simp; omega
    rename_i q3
    have h3 := neH_of h
    (replace h3 := h3; simp only [neH_cons, neH_nil, neA_cons, neA_nil, and_true, true_and] at h3)
    rw [takeApp Ex e.args i (by assumption)]
    exact px ⟨(q3, i + 1), by omega⟩ (by simp; omega) (by simp [E2]) (by simp [subH, hget, names, h3])
  · rw [Ex_eq e]
    refine .agg (.cons .refl (.cons .refl (.cons .refl (.cons .refl (.cons .refl (.cons .refl (.cons ?_ .nil)))))))
    have : i = e.args.length := by omega
    subst this
    rw [List.take_length]
    exact Bor.allM view_Ex hget_new rfl
theorem w90 (r : Rul) (p : Int) (hr : smRu r) : Pure Tryz.prog 90 [Ru r, I p] (· = T (symAt r p)) := by
  have hl := hr.1
  refine gstart mxd i90 rfl (by simp) ?_; simp (maxSteps := 2000000) only [↓ S2, S2, vIte, ↓reduceIte, Int.reduceNe, Nat.reduceEqDiff, reduceCtorEq, Nat.reduceLeDiff, Nat.reduceAdd, Nat.reduceLT]
  ((try with_reducible refine mkQI ?_); (repeat ((first | (with_reducible refine mkQU ?_) | simp only [brGen]); try simp (maxSteps := 2000000) only [↓ S2, S2, vIte, ↓reduceIte, Int.reduceNe, Nat.reduceEqDiff, reduceCtorEq, Nat.reduceLeDiff, Nat.reduceAdd, Nat.reduceLT])); (try simp +contextual (disch := omega) only [Z2]); (repeat' (first | (with_reducible intro h) | (with_reducible refine And.intro (by omega) ?_) | (with_reducible refine exP (by omega) ?_) | (with_reducible apply And.intro))))
  · simp [symAt, h]
  refine callS.eq (w85 _ _ _) ?_
  ((try with_reducible refine mkQI ?_); (repeat ((first | (with_reducible refine mkQU ?_) | simp only [brGen]); try simp (maxSteps := 2000000) only [↓ S2, S2, vIte, ↓reduceIte, Int.reduceNe, Nat.reduceEqDiff, reduceCtorEq, Nat.reduceLeDiff, Nat.reduceAdd, Nat.reduceLT])); (try simp +contextual (disch := omega) only [Z2]); (repeat' (first | (with_reducible intro h) | (with_reducible refine And.intro (by omega) ?_) | (with_reducible refine exP (by omega) ?_) | (with_reducible apply And.intro))))
  · simp only [symAt, if_neg (show ¬ p = 0 from by assumption), if_pos h, getD_lt (show (p - 1).toNat < r.right.length by omega)]
  · simp only [symAt, if_neg (show ¬ p = 0 from by assumption), if_neg h]; rfl
theorem w164 (r : Rul) (p : Int) (hr : smRu r) : Pure Tryz.prog 164 [Ru r, I p] (· = T (symAt r p)) := by
  have hl := hr.1
  refine gstart mxd i164 rfl (by simp) ?_; simp (maxSteps := 2000000) only [↓ S2, S2, vIte, ↓reduceIte, Int.reduceNe, Nat.reduceEqDiff, reduceCtorEq, Nat.reduceLeDiff, Nat.reduceAdd, Nat.reduceLT]
  ((try with_reducible refine mkQI ?_); (repeat ((first | (with_reducible refine mkQU ?_) | simp only [brGen]); try simp (maxSteps := 2000000) only [↓ S2, S2, vIte, ↓reduceIte, Int.reduceNe, Nat.reduceEqDiff, reduceCtorEq, Nat.reduceLeDiff, Nat.reduceAdd, Nat.reduceLT])); (try simp +contextual (disch := omega) only [Z2]); (repeat' (first | (with_reducible intro h) | (with_reducible refine And.intro (by omega) ?_) | (with_reducible refine exP (by omega) ?_) | (with_reducible apply And.intro))))
  · simp [symAt, h]
  refine callS.eq (w73 _ _ _) ?_
  ((try with_reducible refine mkQI ?_); (repeat ((first | (with_reducible refine mkQU ?_) | simp only [brGen]); try simp (maxSteps := 2000000) only [↓ S2, S2, vIte, ↓reduceIte, Int.reduceNe, Nat.reduceEqDiff, reduceCtorEq, Nat.reduceLeDiff, Nat.reduceAdd, Nat.reduceLT])); (try simp +contextual (disch := omega) only [Z2]); (repeat' (first | (with_reducible intro h) | (with_reducible refine And.intro (by omega) ?_) | (with_reducible refine exP (by omega) ?_) | (with_reducible apply And.intro))))
  · simp only [symAt, if_neg (show ¬ p = 0 from by assumption), if_pos h, getD_lt (show (p - 1).toNat < r.right.length by omega)]
  · simp only [symAt, if_neg (show ¬ p = 0 from by assumption), if_neg h]; rfl
end Go.Proofs.YtbdmpkidcpblaaaGreat

namespace Go.Proofs.YtbdmpkidcpblaaaGreat
open Go.Gh
set_option maxRecDepth 20000
set_option linter.unusedSimpArgs false
set_option linter.unusedVariables false
theorem w101 (g : Gram) (r : Rul) (o : Int × ByteArray) (hg : smGr g) (hr : smRu r) : Pure Tryz.prog 101 [Gr g, Ru r, Occ o] (· = .tup [At (attAt g r o.1 o.2), B (hasAt g r o.1 o.2)]) := by
  have hl := hr.1
  refine gstart mxd i101 rfl (by simp) ?_; simp (maxSteps := 2000000) only [↓ S2, S2, vIte, ↓reduceIte, Int.reduceNe, Nat.reduceEqDiff, reduceCtorEq, Nat.reduceLeDiff, Nat.reduceAdd, Nat.reduceLT]
  (repeat' (first | (with_reducible refine callS.eq (w73 _ _ _) ?_) | (with_reducible refine callS.eq (w164 r _ hr) ?_) | (with_reducible refine callS.eq (w103 _ _ hg) ?_) | (with_reducible refine callS.eq (w104 _ _ (smSy_f hg _)) ?_) | simp (maxSteps := 2000000) only [↓ S2, S2, vIte, ↓reduceIte, Int.reduceNe, Nat.reduceEqDiff, reduceCtorEq, Nat.reduceLeDiff, Nat.reduceAdd, Nat.reduceLT] | simp only [brGen] | simp +contextual (disch := omega) only [Z2] | (with_reducible intro h) | (with_reducible refine And.intro (by omega) ?_) | (with_reducible refine exP (by omega) ?_) | (with_reducible apply And.intro)))
  all_goals simp only [attAt, hasAt]
  · rw [if_pos (by assumption), if_pos (by assumption)]
  · rw [if_neg (by assumption), if_neg (by assumption)]; rfl
theorem w89 (g : Gram) (s n : ByteArray) (hg : smGr g) : Pure Tryz.prog 89 [Gr g, T s, T n] (· = I (fAtt (fSym g.syms s).atts n).type) := by
  refine gstart mxd i89 rfl (by simp) ?_; simp (maxSteps := 2000000) only [↓ S2, S2, vIte, ↓reduceIte, Int.reduceNe, Nat.reduceEqDiff, reduceCtorEq, Nat.reduceLeDiff, Nat.reduceAdd, Nat.reduceLT]
  (repeat' (first | (with_reducible refine callS.eq (w91 _ _ hg) ?_) | (with_reducible refine callS.eq (w92 _ _ (smSy_f hg _)) ?_) | simp (maxSteps := 2000000) only [↓ S2, S2, vIte, ↓reduceIte, Int.reduceNe, Nat.reduceEqDiff, reduceCtorEq, Nat.reduceLeDiff, Nat.reduceAdd, Nat.reduceLT] | simp only [brGen] | simp +contextual (disch := omega) only [Z2] | (with_reducible intro h) | (with_reducible refine And.intro (by omega) ?_) | (with_reducible refine exP (by omega) ?_) | (with_reducible apply And.intro)))
  all_goals rw [fAtt_no (by assumption)]; rfl
end Go.Proofs.YtbdmpkidcpblaaaGreat

namespace Go.Proofs.YtbdmpkidcpblaaaGreat
open Go.Gh
set_option maxRecDepth 20000
set_option linter.unusedSimpArgs false
set_option linter.unusedVariables false
end Go.Proofs.YtbdmpkidcpblaaaGreat

namespace Go.Proofs.YtbdmpkidcpblaaaGreat
open Go.Gh
set_option maxRecDepth 20000
set_option linter.unusedSimpArgs false
set_option linter.unusedVariables false
theorem w186 (r : Rul) (o : Int × ByteArray) (hr : smRu r) : Pure Tryz.prog 186 [Ru r, Occ o] (· = .tup [Ex (eqnE r o), B (eqnF r o).isSome]) := by
  refine Pure.bor ?_
  have hlen := hr.2.1
  refine gstart mxd i186 rfl (by simp) ?_; simp (maxSteps := 2000000) only [↓ S2, S2, vIte, ↓reduceIte, Int.reduceNe, Nat.reduceEqDiff, reduceCtorEq, Nat.reduceLeDiff, Nat.reduceAdd, Nat.reduceLT]
  refine wloop mxd (ι := { i : Nat // i ≤ r.eqs.length ∧ ∀ y ∈ r.eqs.take i, decide (y.pos = o.1 ∧ y.name = o.2) = false }) (fun i => [(2, .rop 6 (Ru r)), (3, .rop 2 (Occ o)), (4, .raw 7), (6, I i.1)]) (fun _ => []) (fun i => r.eqs.length - i.1) ⟨0, by simp⟩ (by simp [E2]) rfl ?_
  rintro ⟨i, hi, hn⟩
  rcases Nat.lt_or_ge i r.eqs.length with hlt | hge
  · by_cases he : r.eqs[i].pos = o.1 ∧ r.eqs[i].name = o.2
    · ((try with_reducible refine mkQI ?_); (repeat ((first | (with_reducible refine mkQU ?_) | simp only [brGen]); try simp (maxSteps := 4000000) +contextual only [↓ S2, S2, vIte, ↓reduceIte, Int.reduceNe, Nat.reduceEqDiff, reduceCtorEq, Nat.reduceLeDiff, Nat.reduceAdd, Nat.reduceLT, hget_c, hset_c, hdel_c, neN, neA_cons, neA_nil, XE, he, and_self, decide_true])); (try simp +contextual (disch := omega) only [Z2, XE, he, and_self, decide_true]); (repeat' (first | (with_reducible intro h) | (with_reducible refine And.intro (by omega) ?_) | (with_reducible refine exP (by omega) ?_) | (with_reducible apply And.intro))))
      all_goals try (exfalso; omega)
      refine callS.eq (w232 r.eqs[i].expr (hr.2.2.2.1 _ (List.getElem_mem _))) ?_
      ((try with_reducible refine mkQI ?_); (repeat ((first | (with_reducible refine mkQU ?_) | simp only [brGen]); try simp (maxSteps := 4000000) +contextual only [↓ S2, S2, vIte, ↓reduceIte, Int.reduceNe, Nat.reduceEqDiff, reduceCtorEq, Nat.reduceLeDiff, Nat.reduceAdd, Nat.reduceLT, hget_c, hset_c, hdel_c, neN, neA_cons, neA_nil, XE])); (try simp +contextual (disch := omega) only [Z2, XE]); (repeat' (first | (with_reducible intro h) | (with_reducible refine And.intro (by omega) ?_) | (with_reducible refine exP (by omega) ?_) | (with_reducible apply And.intro))))
      have e := find_hit (p := fun x : Eqn => decide (x.pos = o.1 ∧ x.name = o.2)) (xs := r.eqs) (i := i) hlt (by simp [he]) hn
      simp only [eqnE, eqnF, e]
      exact .refl
    · ((try with_reducible refine mkQI ?_); (repeat ((first | (with_reducible refine mkQU ?_) | simp only [brGen]); try simp (maxSteps := 4000000) +contextual only [↓ S2, S2, vIte, ↓reduceIte, Int.reduceNe, Nat.reduceEqDiff, reduceCtorEq, Nat.reduceLeDiff, Nat.reduceAdd, Nat.reduceLT, hget_c, hset_c, hdel_c, neN, neA_cons, neA_nil, XE])); (try simp +contextual (disch := omega) only [Z2, XE]); (repeat' (first | (with_reducible intro h) | (with_reducible refine And.intro (by omega) ?_) | (with_reducible refine exP (by omega) ?_) | (with_reducible apply And.intro))))
      all_goals first
        | exact nx ⟨i + 1, by omega, take_step hlt (by simp [he]) hn⟩ (by simp; omega) (by simp [E2]) rfl
        | (exfalso; omega)
        | (exfalso; exact he ⟨by assumption, by assumption⟩)
  · have : i = r.eqs.length := by omega
    subst this
    rw [List.take_of_length_le (Nat.le_refl _)] at hn
    have e := find_none hn
    ((try with_reducible refine mkQI ?_); (repeat ((first | (with_reducible refine mkQU ?_) | simp only [brGen]); try simp (maxSteps := 4000000) +contextual only [↓ S2, S2, vIte, ↓reduceIte, Int.reduceNe, Nat.reduceEqDiff, reduceCtorEq, Nat.reduceLeDiff, Nat.reduceAdd, Nat.reduceLT, hget_c, hset_c, hdel_c, neN, neA_cons, neA_nil, XE])); (try simp +contextual (disch := omega) only [Z2, XE]); (repeat' (first | (with_reducible intro h) | (with_reducible refine And.intro (by omega) ?_) | (with_reducible refine exP (by omega) ?_) | (with_reducible apply And.intro))))
    all_goals try (exfalso; omega)
    simp only [eqnE, eqnF, e]
    exact .tup (.cons (.agg (.cons .refl (.cons .refl (.cons .refl (.cons .refl (.cons .refl (.cons .refl (.cons .nil .nil)))))))) (.cons .refl .nil))
end Go.Proofs.YtbdmpkidcpblaaaGreat

