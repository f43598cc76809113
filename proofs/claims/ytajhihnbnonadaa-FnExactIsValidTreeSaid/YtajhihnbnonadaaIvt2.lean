/- The law FnExactIsValidTree returns true whatever the input, and the input reads behind the call as before. No condition. -/
import Derived.Test.YtajhihnbnonadaaIvt1
namespace Go.Proofs.Ytajhihnbnonadaa
open Go.Gh
set_option maxRecDepth 20000
set_option linter.unusedSimpArgs false
set_option linter.unusedVariables false
theorem w99 (xs : List ByteArray) (left : Int) (h0 : 0 ≤ left) (h1 : left ≤ 1048576) (hx : ∀ x ∈ xs, x.size ≤ maxLen) : Pure Try.prog 99 [TS xs, I left] (· = I (szv left (wtS wT xs))) := by
  refine GCalls.lenA fun hl => ?_
  have hlen := hl.1.1
  simp only [List.length_map, maxL] at hlen
  refine gstart mxd i99 rfl (by simp) ?_; simp (maxSteps := 2000000) only [↓ S2, S2, vIte, ↓reduceIte, Int.reduceNe, Nat.reduceEqDiff, reduceCtorEq, Nat.reduceLeDiff, Nat.reduceAdd, Nat.reduceLT]
  ((try simp (maxSteps := 2000000) only [↓ S2, S2, vIte, ↓reduceIte, Int.reduceNe, Nat.reduceEqDiff, reduceCtorEq, Nat.reduceLeDiff, Nat.reduceAdd, Nat.reduceLT]); (repeat (simp only [brGen]; try simp (maxSteps := 2000000) only [↓ S2, S2, vIte, ↓reduceIte, Int.reduceNe, Nat.reduceEqDiff, reduceCtorEq, Nat.reduceLeDiff, Nat.reduceAdd, Nat.reduceLT])); (try simp +contextual (disch := omega) only [Z2]); (repeat' (first | (with_reducible intro h) | (with_reducible refine And.intro (by omega) ?_) | (with_reducible refine exP (by omega) ?_) | (with_reducible apply And.intro))))
  · congr 2; simp only [szv, wtS]; omega
  refine wloop mxd (ι := { i : Nat // i ≤ xs.length ∧ ((xs.length + psum wT xs i : Nat) : Int) ≤ left }) (fun i => [(0, TS xs), (1, I (left - ((xs.length + psum wT xs i.1 : Nat) : Int))), (5, I i.1)]) (fun _ => []) (fun i => xs.length - i.1) ⟨0, by simp [psum_zero]; omega⟩ (by simp [E2, psum_zero]) rfl ?_
  rintro ⟨i, hi, hp⟩
  simp (maxSteps := 2000000) only [↓ S2, S2, vIte, ↓reduceIte, Int.reduceNe, Nat.reduceEqDiff, reduceCtorEq, Nat.reduceLeDiff, Nat.reduceAdd, Nat.reduceLT]
  rcases Nat.lt_or_ge i xs.length with h | h
  · have e1 := psum_succ wT xs i h
    have e2 := psum_le wT xs (i + 1)
    have e3 := hx _ (List.getElem_mem h)
    have hz := size_chars xs[i]
    simp only [maxLen, size_chars] at e3
    simp only [wT] at e1
    ((try simp (maxSteps := 2000000) only [↓ S2, S2, vIte, ↓reduceIte, Int.reduceNe, Nat.reduceEqDiff, reduceCtorEq, Nat.reduceLeDiff, Nat.reduceAdd, Nat.reduceLT]); (repeat (simp only [brGen]; try simp (maxSteps := 2000000) only [↓ S2, S2, vIte, ↓reduceIte, Int.reduceNe, Nat.reduceEqDiff, reduceCtorEq, Nat.reduceLeDiff, Nat.reduceAdd, Nat.reduceLT])); (try simp +contextual (disch := omega) only [Z2]); (repeat' (first | (with_reducible intro h) | (with_reducible refine And.intro (by omega) ?_) | (with_reducible refine exP (by omega) ?_) | (with_reducible apply And.intro))))
    · congr 2; simp only [szv, wtS] at *; omega
    · exact nx ⟨i + 1, by omega, by omega⟩ (by simp; omega) (by simp [E2]; omega) rfl
    all_goals (exfalso; omega)
  · ((try simp (maxSteps := 2000000) only [↓ S2, S2, vIte, ↓reduceIte, Int.reduceNe, Nat.reduceEqDiff, reduceCtorEq, Nat.reduceLeDiff, Nat.reduceAdd, Nat.reduceLT]); (repeat (simp only [brGen]; try simp (maxSteps := 2000000) only [↓ S2, S2, vIte, ↓reduceIte, Int.reduceNe, Nat.reduceEqDiff, reduceCtorEq, Nat.reduceLeDiff, Nat.reduceAdd, Nat.reduceLT])); (try simp +contextual (disch := omega) only [Z2]); (repeat' (first | (with_reducible intro h) | (with_reducible refine And.intro (by omega) ?_) | (with_reducible refine exP (by omega) ?_) | (with_reducible apply And.intro))))
    all_goals first | (exfalso; omega) | skip
    have : i = xs.length := by omega
    subst this
    rw [psum_all] at *
    congr 2; simp only [szv, wtS]; omega
theorem w106 (xs : List ByteArray) (hx : xs.length ≤ 1048576) : Pure Try.prog 106 [TS xs] (· = TS xs) := by
  refine Pure.bor ?_
  refine gstart mxd i106 rfl (by simp) ?_; simp (maxSteps := 2000000) only [↓ S2, S2, vIte, ↓reduceIte, Int.reduceNe, Nat.reduceEqDiff, reduceCtorEq, Nat.reduceLeDiff, Nat.reduceAdd, Nat.reduceLT]
  refine ⟨by omega, by omega, by omega, by omega, fun r hr => ?_⟩
  refine wloop mxd (ι := { i : Nat // i ≤ xs.length }) (fun i => [(0, TS xs), (3, .own r 1 0 xs.length), (4, I i.1)]) (fun i => [(r, 1, (xs.take i.1).map T ++ List.replicate (xs.length - i.1) (T noS))]) (fun i => xs.length - i.1) ⟨0, by simp⟩ (by simp [E2]) (by simp [noS]) ?_
  rintro ⟨i, hi⟩
  ((try simp (maxSteps := 2000000) only [↓ S2, S2, vIte, ↓reduceIte, Int.reduceNe, Nat.reduceEqDiff, reduceCtorEq, Nat.reduceLeDiff, Nat.reduceAdd, Nat.reduceLT]); (repeat (simp only [brGen]; try simp (maxSteps := 2000000) only [↓ S2, S2, vIte, ↓reduceIte, Int.reduceNe, Nat.reduceEqDiff, reduceCtorEq, Nat.reduceLeDiff, Nat.reduceAdd, Nat.reduceLT])); (try simp +contextual (disch := omega) only [Z2]); (repeat' (first | (with_reducible intro h) | (with_reducible refine And.intro (by omega) ?_) | (with_reducible refine exP (by omega) ?_) | (with_reducible apply And.intro))))
  · refine ⟨by simp; omega, nx ⟨i + 1, by omega⟩ (by simp; omega) (by simp [E2]) ?_⟩
    rw [fill_set xs T (T noS) i h]
  · have : i = xs.length := by omega
    subst this
    exact Bor.allM (fun _ => rfl) (by simp [hget]) rfl
theorem w113 (xs ys : List ByteArray) : Pure Try.prog 113 [TS xs, TS ys] (· = B (decide (xs = ys))) := by
  refine GCalls.lenA fun hl => ?_
  have hl := hl.1.1
  simp only [List.length_map, maxL] at hl
  refine gstart mxd i113 rfl (by simp) ?_; simp (maxSteps := 2000000) only [↓ S2, S2, vIte, ↓reduceIte, Int.reduceNe, Nat.reduceEqDiff, reduceCtorEq, Nat.reduceLeDiff, Nat.reduceAdd, Nat.reduceLT]
  ((try simp (maxSteps := 2000000) only [↓ S2, S2, vIte, ↓reduceIte, Int.reduceNe, Nat.reduceEqDiff, reduceCtorEq, Nat.reduceLeDiff, Nat.reduceAdd, Nat.reduceLT]); (repeat (simp only [brGen]; try simp (maxSteps := 2000000) only [↓ S2, S2, vIte, ↓reduceIte, Int.reduceNe, Nat.reduceEqDiff, reduceCtorEq, Nat.reduceLeDiff, Nat.reduceAdd, Nat.reduceLT])); (try simp +contextual (disch := omega) only [Z2]); (repeat' (first | (with_reducible intro h) | (with_reducible refine And.intro (by omega) ?_) | (with_reducible refine exP (by omega) ?_) | (with_reducible apply And.intro))))
  rotate_left
  · simp; rintro rfl; exact h rfl
  refine wloop mxd (ι := { i : Nat // i ≤ xs.length ∧ xs.take i = ys.take i }) (fun i => [(0, TS xs), (1, TS ys), (5, I i.1)]) (fun _ => []) (fun i => xs.length - i.1) ⟨0, by simp⟩ (by simp [E2]) rfl ?_
  rintro ⟨i, hi, hp⟩
  ((try simp (maxSteps := 2000000) only [↓ S2, S2, vIte, ↓reduceIte, Int.reduceNe, Nat.reduceEqDiff, reduceCtorEq, Nat.reduceLeDiff, Nat.reduceAdd, Nat.reduceLT]); (repeat (simp only [brGen]; try simp (maxSteps := 2000000) only [↓ S2, S2, vIte, ↓reduceIte, Int.reduceNe, Nat.reduceEqDiff, reduceCtorEq, Nat.reduceLeDiff, Nat.reduceAdd, Nat.reduceLT])); (try simp +contextual (disch := omega) only [Z2]); (repeat' (first | (with_reducible intro h) | (with_reducible refine And.intro (by omega) ?_) | (with_reducible refine exP (by omega) ?_) | (with_reducible apply And.intro))))
  · exact nx ⟨i + 1, by omega, take_eq_step hp (by omega) (by omega) h⟩ (by simp; omega) (by simp [E2]) rfl
  · simp; rintro rfl; simp at h
  · have : i = xs.length := by omega
    subst this
    rw [List.take_of_length_le (by omega), List.take_of_length_le (by omega)] at hp
    simp [hp]
theorem w187 (x : Att) (left : Int) (h0 : 0 ≤ left) (h1 : left ≤ 1048576) (hx : okAt x) : Pure Try.prog 187 [At x, I left] (· = I (szv left (wAt x))) := by
  simp only [okAt, maxLen, size_chars] at hx
  refine gstart mxd i187 rfl (by simp) ?_; simp (maxSteps := 2000000) only [↓ S2, S2, vIte, ↓reduceIte, Int.reduceNe, Nat.reduceEqDiff, reduceCtorEq, Nat.reduceLeDiff, Nat.reduceAdd, Nat.reduceLT]
  ((try simp (maxSteps := 2000000) only [↓ S2, S2, vIte, ↓reduceIte, Int.reduceNe, Nat.reduceEqDiff, reduceCtorEq, Nat.reduceLeDiff, Nat.reduceAdd, Nat.reduceLT]); (repeat (simp only [brGen]; try simp (maxSteps := 2000000) only [↓ S2, S2, vIte, ↓reduceIte, Int.reduceNe, Nat.reduceEqDiff, reduceCtorEq, Nat.reduceLeDiff, Nat.reduceAdd, Nat.reduceLT])); (try simp +contextual (disch := omega) only [Z2]); (repeat' (first | (with_reducible intro h) | (with_reducible refine And.intro (by omega) ?_) | (with_reducible refine exP (by omega) ?_) | (with_reducible apply And.intro)))) <;> (congr 2; simp only [szv, wAt]; omega)
theorem w146 (x : Sym) (left : Int) (h0 : 0 ≤ left) (h1 : left ≤ 1048576) (hx : okSy x) : Pure Try.prog 146 [Sy x, I left] (· = I (szv left (wSy x))) := by
  obtain ⟨ho, hx⟩ := hx
  simp only [maxLen, size_chars] at ho
  refine gstart mxd i146 rfl (by simp) ?_; simp (maxSteps := 2000000) only [↓ S2, S2, vIte, ↓reduceIte, Int.reduceNe, Nat.reduceEqDiff, reduceCtorEq, Nat.reduceLeDiff, Nat.reduceAdd, Nat.reduceLT]
  ((try simp (maxSteps := 2000000) only [↓ S2, S2, vIte, ↓reduceIte, Int.reduceNe, Nat.reduceEqDiff, reduceCtorEq, Nat.reduceLeDiff, Nat.reduceAdd, Nat.reduceLT]); (repeat (simp only [brGen]; try simp (maxSteps := 2000000) only [↓ S2, S2, vIte, ↓reduceIte, Int.reduceNe, Nat.reduceEqDiff, reduceCtorEq, Nat.reduceLeDiff, Nat.reduceAdd, Nat.reduceLT])); (try simp +contextual (disch := omega) only [Z2]); (repeat' (first | (with_reducible intro h) | (with_reducible refine And.intro (by omega) ?_) | (with_reducible refine exP (by omega) ?_) | (with_reducible apply And.intro))))
  · congr 2; simp only [szv, wSy]; omega
  refine callS.eq (szS mxd wAt i177 (fun _ => rfl) (fun _ => rfl) x.atts _ (by omega) (by omega) fun a hm l c d => w187 a l c d (hx a hm)) ?_
  ((try simp (maxSteps := 2000000) only [↓ S2, S2, vIte, ↓reduceIte, Int.reduceNe, Nat.reduceEqDiff, reduceCtorEq, Nat.reduceLeDiff, Nat.reduceAdd, Nat.reduceLT]); (repeat (simp only [brGen]; try simp (maxSteps := 2000000) only [↓ S2, S2, vIte, ↓reduceIte, Int.reduceNe, Nat.reduceEqDiff, reduceCtorEq, Nat.reduceLeDiff, Nat.reduceAdd, Nat.reduceLT])); (try simp +contextual (disch := omega) only [Z2]); (repeat' (first | (with_reducible intro h) | (with_reducible refine And.intro (by omega) ?_) | (with_reducible refine exP (by omega) ?_) | (with_reducible apply And.intro)))) <;> (congr 2; simp only [szv, wSy] at *; omega)
theorem w150 (x : Eqn) (left : Int) (h0 : 0 ≤ left) (h1 : left ≤ 1048576) (hx : okEq x) : Pure Try.prog 150 [Qn x, I left] (· = I (szv left (wEq x))) := by
  have hz := size_chars x.name
  refine gstart mxd i150 rfl (by simp) ?_; simp (maxSteps := 2000000) only [↓ S2, S2, vIte, ↓reduceIte, Int.reduceNe, Nat.reduceEqDiff, reduceCtorEq, Nat.reduceLeDiff, Nat.reduceAdd, Nat.reduceLT]
  refine callS.eq (w35 (x.pos, x.name) _ (by omega) (by omega) hx.1) ?_
  ((try simp (maxSteps := 2000000) only [↓ S2, S2, vIte, ↓reduceIte, Int.reduceNe, Nat.reduceEqDiff, reduceCtorEq, Nat.reduceLeDiff, Nat.reduceAdd, Nat.reduceLT, XE]); (repeat (simp only [brGen]; try simp (maxSteps := 2000000) only [↓ S2, S2, vIte, ↓reduceIte, Int.reduceNe, Nat.reduceEqDiff, reduceCtorEq, Nat.reduceLeDiff, Nat.reduceAdd, Nat.reduceLT, XE])); (try simp +contextual (disch := omega) only [Z2]); (repeat' (first | (with_reducible intro h) | (with_reducible refine And.intro (by omega) ?_) | (with_reducible refine exP (by omega) ?_) | (with_reducible apply And.intro))))
  · congr 2; simp only [szv, wEq, wOcc] at *; omega
  have e := szv_nn h
  rw [szv_pos e]
  simp only [wOcc] at e ⊢
  refine callS.eq (w22 x.expr hx.2 _ (by omega) (by omega)) ?_
  ((try simp (maxSteps := 2000000) only [↓ S2, S2, vIte, ↓reduceIte, Int.reduceNe, Nat.reduceEqDiff, reduceCtorEq, Nat.reduceLeDiff, Nat.reduceAdd, Nat.reduceLT]); (repeat (simp only [brGen]; try simp (maxSteps := 2000000) only [↓ S2, S2, vIte, ↓reduceIte, Int.reduceNe, Nat.reduceEqDiff, reduceCtorEq, Nat.reduceLeDiff, Nat.reduceAdd, Nat.reduceLT])); (try simp +contextual (disch := omega) only [Z2]); (repeat' (first | (with_reducible intro h) | (with_reducible refine And.intro (by omega) ?_) | (with_reducible refine exP (by omega) ?_) | (with_reducible apply And.intro)))) <;> (congr 2; simp only [szv, wEq, wOcc] at *; omega)
theorem w151 (x : Con) (left : Int) (h0 : 0 ≤ left) (h1 : left ≤ 1048576) (hx : okCo x) : Pure Try.prog 151 [Co x, I left] (· = I (szv left (wCo x))) := by
  obtain ⟨ho, hp, hg, hv⟩ := hx
  simp only [maxLen, size_chars] at ho hp
  refine gstart mxd i151 rfl (by simp) ?_; simp (maxSteps := 2000000) only [↓ S2, S2, vIte, ↓reduceIte, Int.reduceNe, Nat.reduceEqDiff, reduceCtorEq, Nat.reduceLeDiff, Nat.reduceAdd, Nat.reduceLT]
  ((try simp (maxSteps := 2000000) only [↓ S2, S2, vIte, ↓reduceIte, Int.reduceNe, Nat.reduceEqDiff, reduceCtorEq, Nat.reduceLeDiff, Nat.reduceAdd, Nat.reduceLT, XE]); (repeat (simp only [brGen]; try simp (maxSteps := 2000000) only [↓ S2, S2, vIte, ↓reduceIte, Int.reduceNe, Nat.reduceEqDiff, reduceCtorEq, Nat.reduceLeDiff, Nat.reduceAdd, Nat.reduceLT, XE])); (try simp +contextual (disch := omega) only [Z2]); (repeat' (first | (with_reducible intro h) | (with_reducible refine And.intro (by omega) ?_) | (with_reducible refine exP (by omega) ?_) | (with_reducible apply And.intro))))
  · congr 2; simp only [szv, wCo]; omega
  · congr 2; simp only [szv, wCo]; omega
  refine callS.eq (w22 x.goal hg _ (by omega) (by omega)) ?_
  ((try simp (maxSteps := 2000000) only [↓ S2, S2, vIte, ↓reduceIte, Int.reduceNe, Nat.reduceEqDiff, reduceCtorEq, Nat.reduceLeDiff, Nat.reduceAdd, Nat.reduceLT, XE]); (repeat (simp only [brGen]; try simp (maxSteps := 2000000) only [↓ S2, S2, vIte, ↓reduceIte, Int.reduceNe, Nat.reduceEqDiff, reduceCtorEq, Nat.reduceLeDiff, Nat.reduceAdd, Nat.reduceLT, XE])); (try simp +contextual (disch := omega) only [Z2]); (repeat' (first | (with_reducible intro h) | (with_reducible refine And.intro (by omega) ?_) | (with_reducible refine exP (by omega) ?_) | (with_reducible apply And.intro))))
  · congr 2; simp only [szv, wCo] at *; omega
  have e := szv_nn h
  rw [szv_pos e]
  refine callS.eq (w22 x.value hv _ (by omega) (by omega)) ?_
  ((try simp (maxSteps := 2000000) only [↓ S2, S2, vIte, ↓reduceIte, Int.reduceNe, Nat.reduceEqDiff, reduceCtorEq, Nat.reduceLeDiff, Nat.reduceAdd, Nat.reduceLT]); (repeat (simp only [brGen]; try simp (maxSteps := 2000000) only [↓ S2, S2, vIte, ↓reduceIte, Int.reduceNe, Nat.reduceEqDiff, reduceCtorEq, Nat.reduceLeDiff, Nat.reduceAdd, Nat.reduceLT])); (try simp +contextual (disch := omega) only [Z2]); (repeat' (first | (with_reducible intro h) | (with_reducible refine And.intro (by omega) ?_) | (with_reducible refine exP (by omega) ?_) | (with_reducible apply And.intro)))) <;> (congr 2; simp only [szv, wCo] at *; omega)
theorem w44 (x : Rul) (left : Int) (h0 : 0 ≤ left) (h1 : left ≤ 1048576) (hx : okRu x) : Pure Try.prog 44 [Ru x, I left] (· = I (szv left (wRu x))) := by
  obtain ⟨ho, hp, hr, hq, hc⟩ := hx
  simp only [maxLen, size_chars] at ho hp
  refine gstart mxd i44 rfl (by simp) ?_; simp (maxSteps := 2000000) only [↓ S2, S2, vIte, ↓reduceIte, Int.reduceNe, Nat.reduceEqDiff, reduceCtorEq, Nat.reduceLeDiff, Nat.reduceAdd, Nat.reduceLT]
  ((try simp (maxSteps := 2000000) only [↓ S2, S2, vIte, ↓reduceIte, Int.reduceNe, Nat.reduceEqDiff, reduceCtorEq, Nat.reduceLeDiff, Nat.reduceAdd, Nat.reduceLT]); (repeat (simp only [brGen]; try simp (maxSteps := 2000000) only [↓ S2, S2, vIte, ↓reduceIte, Int.reduceNe, Nat.reduceEqDiff, reduceCtorEq, Nat.reduceLeDiff, Nat.reduceAdd, Nat.reduceLT])); (try simp +contextual (disch := omega) only [Z2]); (repeat' (first | (with_reducible intro h) | (with_reducible refine And.intro (by omega) ?_) | (with_reducible refine exP (by omega) ?_) | (with_reducible apply And.intro))))
  · congr 2; simp only [szv, wRu]; omega
  · congr 2; simp only [szv, wRu]; omega
  refine callS.eq (w99 x.right _ (by omega) (by omega) hr) ?_
  ((try simp (maxSteps := 2000000) only [↓ S2, S2, vIte, ↓reduceIte, Int.reduceNe, Nat.reduceEqDiff, reduceCtorEq, Nat.reduceLeDiff, Nat.reduceAdd, Nat.reduceLT]); (repeat (simp only [brGen]; try simp (maxSteps := 2000000) only [↓ S2, S2, vIte, ↓reduceIte, Int.reduceNe, Nat.reduceEqDiff, reduceCtorEq, Nat.reduceLeDiff, Nat.reduceAdd, Nat.reduceLT])); (try simp +contextual (disch := omega) only [Z2]); (repeat' (first | (with_reducible intro h) | (with_reducible refine And.intro (by omega) ?_) | (with_reducible refine exP (by omega) ?_) | (with_reducible apply And.intro))))
  · congr 2; simp only [szv, wRu] at *; omega
  have e := szv_nn h
  rw [szv_pos e]
  refine callS.eq (szS mxd wEq i100 (fun _ => rfl) (fun _ => rfl) x.eqs _ (by omega) (by omega) fun a hm l c d => w150 a l c d (hq a hm)) ?_
  ((try simp (maxSteps := 2000000) only [↓ S2, S2, vIte, ↓reduceIte, Int.reduceNe, Nat.reduceEqDiff, reduceCtorEq, Nat.reduceLeDiff, Nat.reduceAdd, Nat.reduceLT]); (repeat (simp only [brGen]; try simp (maxSteps := 2000000) only [↓ S2, S2, vIte, ↓reduceIte, Int.reduceNe, Nat.reduceEqDiff, reduceCtorEq, Nat.reduceLeDiff, Nat.reduceAdd, Nat.reduceLT])); (try simp +contextual (disch := omega) only [Z2]); (repeat' (first | (with_reducible intro h) | (with_reducible refine And.intro (by omega) ?_) | (with_reducible refine exP (by omega) ?_) | (with_reducible apply And.intro))))
  · congr 2; simp only [szv, wRu] at *; omega
  have e2 := szv_nn h
  rw [szv_pos e2]
  refine callS.eq (szS mxd wCo i101 (fun _ => rfl) (fun _ => rfl) x.cons _ (by omega) (by omega) fun a hm l c d => w151 a l c d (hc a hm)) ?_
  ((try simp (maxSteps := 2000000) only [↓ S2, S2, vIte, ↓reduceIte, Int.reduceNe, Nat.reduceEqDiff, reduceCtorEq, Nat.reduceLeDiff, Nat.reduceAdd, Nat.reduceLT]); (repeat (simp only [brGen]; try simp (maxSteps := 2000000) only [↓ S2, S2, vIte, ↓reduceIte, Int.reduceNe, Nat.reduceEqDiff, reduceCtorEq, Nat.reduceLeDiff, Nat.reduceAdd, Nat.reduceLT])); (try simp +contextual (disch := omega) only [Z2]); (repeat' (first | (with_reducible intro h) | (with_reducible refine And.intro (by omega) ?_) | (with_reducible refine exP (by omega) ?_) | (with_reducible apply And.intro)))) <;> (congr 2; simp only [szv, wRu] at *; omega)
theorem w34 (g : Gram) (left : Int) (h0 : 0 ≤ left) (h1 : left ≤ 1048576) (hx : okGr g) : Pure Try.prog 34 [Gr g, I left] (· = I (szv left (wGr g))) := by
  refine gstart mxd i34 rfl (by simp) ?_; simp (maxSteps := 2000000) only [↓ S2, S2, vIte, ↓reduceIte, Int.reduceNe, Nat.reduceEqDiff, reduceCtorEq, Nat.reduceLeDiff, Nat.reduceAdd, Nat.reduceLT]
  refine callS.eq (szS mxd wSy i90 (fun _ => rfl) (fun _ => rfl) g.syms _ (by omega) (by omega) fun a hm l c d => w146 a l c d (hx.1 a hm)) ?_
  ((try simp (maxSteps := 2000000) only [↓ S2, S2, vIte, ↓reduceIte, Int.reduceNe, Nat.reduceEqDiff, reduceCtorEq, Nat.reduceLeDiff, Nat.reduceAdd, Nat.reduceLT]); (repeat (simp only [brGen]; try simp (maxSteps := 2000000) only [↓ S2, S2, vIte, ↓reduceIte, Int.reduceNe, Nat.reduceEqDiff, reduceCtorEq, Nat.reduceLeDiff, Nat.reduceAdd, Nat.reduceLT])); (try simp +contextual (disch := omega) only [Z2]); (repeat' (first | (with_reducible intro h) | (with_reducible refine And.intro (by omega) ?_) | (with_reducible refine exP (by omega) ?_) | (with_reducible apply And.intro))))
  · congr 2; simp only [szv, wGr] at *; omega
  have e := szv_nn h
  rw [szv_pos e]
  refine callS.eq (szS mxd wRu i91 (fun _ => rfl) (fun _ => rfl) g.rules _ (by omega) (by omega) fun a hm l c d => w44 a l c d (hx.2 a hm)) ?_
  ((try simp (maxSteps := 2000000) only [↓ S2, S2, vIte, ↓reduceIte, Int.reduceNe, Nat.reduceEqDiff, reduceCtorEq, Nat.reduceLeDiff, Nat.reduceAdd, Nat.reduceLT]); (repeat (simp only [brGen]; try simp (maxSteps := 2000000) only [↓ S2, S2, vIte, ↓reduceIte, Int.reduceNe, Nat.reduceEqDiff, reduceCtorEq, Nat.reduceLeDiff, Nat.reduceAdd, Nat.reduceLT])); (try simp +contextual (disch := omega) only [Z2]); (repeat' (first | (with_reducible intro h) | (with_reducible refine And.intro (by omega) ?_) | (with_reducible refine exP (by omega) ?_) | (with_reducible apply And.intro)))) <;> (congr 2; simp only [szv, wGr] at *; omega)
theorem w188 (x : Att) : Pure Try.prog 188 [At x] (· = At x) := by
  refine gstart mxd i188 rfl (by simp) ?_; simp (maxSteps := 2000000) only [↓ S2, S2, vIte, ↓reduceIte, Int.reduceNe, Nat.reduceEqDiff, reduceCtorEq, Nat.reduceLeDiff, Nat.reduceAdd, Nat.reduceLT]
  ((try simp (maxSteps := 2000000) only [↓ S2, S2, vIte, ↓reduceIte, Int.reduceNe, Nat.reduceEqDiff, reduceCtorEq, Nat.reduceLeDiff, Nat.reduceAdd, Nat.reduceLT]); (repeat (simp only [brGen]; try simp (maxSteps := 2000000) only [↓ S2, S2, vIte, ↓reduceIte, Int.reduceNe, Nat.reduceEqDiff, reduceCtorEq, Nat.reduceLeDiff, Nat.reduceAdd, Nat.reduceLT])); (try simp +contextual (disch := omega) only [Z2]); (repeat' (first | (with_reducible intro h) | (with_reducible refine And.intro (by omega) ?_) | (with_reducible refine exP (by omega) ?_) | (with_reducible apply And.intro))))
theorem w178 (xs : List Att) (hl : xs.length ≤ 1048576) : Pure Try.prog 178 [AtS xs] (· = AtS xs) :=
  freezeS (fun _ => rfl) fun H => toSo mxd i178 (fun _ => rfl) (fun _ => rfl) (fun _ => rfl) (fun _ => rfl) xs hl (by decide) (fun x hm => w188 x) H
theorem w147 (x : Sym) (hx : smSy x) : Pure Try.prog 147 [Sy x] (· = Sy x) := by
  refine gstart mxd i147 rfl (by simp) ?_; simp (maxSteps := 2000000) only [↓ S2, S2, vIte, ↓reduceIte, Int.reduceNe, Nat.reduceEqDiff, reduceCtorEq, Nat.reduceLeDiff, Nat.reduceAdd, Nat.reduceLT]
  intro r hr
  refine callS.eq (w178 _ hx) ?_
  ((try simp (maxSteps := 2000000) only [↓ S2, S2, vIte, ↓reduceIte, Int.reduceNe, Nat.reduceEqDiff, reduceCtorEq, Nat.reduceLeDiff, Nat.reduceAdd, Nat.reduceLT]); (repeat (simp only [brGen]; try simp (maxSteps := 2000000) only [↓ S2, S2, vIte, ↓reduceIte, Int.reduceNe, Nat.reduceEqDiff, reduceCtorEq, Nat.reduceLeDiff, Nat.reduceAdd, Nat.reduceLT])); (try simp +contextual (disch := omega) only [Z2]); (repeat' (first | (with_reducible intro h) | (with_reducible refine And.intro (by omega) ?_) | (with_reducible refine exP (by omega) ?_) | (with_reducible apply And.intro))))
theorem w153 (x : Eqn) (hx : smEq x) : Pure Try.prog 153 [Qn x] (· = Qn x) := by
  refine gstart mxd i153 rfl (by simp) ?_; simp (maxSteps := 2000000) only [↓ S2, S2, vIte, ↓reduceIte, Int.reduceNe, Nat.reduceEqDiff, reduceCtorEq, Nat.reduceLeDiff, Nat.reduceAdd, Nat.reduceLT]
  intro r hr
  refine callS.eq (w38 (x.pos, x.name)) ?_
  simp (maxSteps := 2000000) only [↓ S2, S2, vIte, ↓reduceIte, Int.reduceNe, Nat.reduceEqDiff, reduceCtorEq, Nat.reduceLeDiff, Nat.reduceAdd, Nat.reduceLT, XE]
  refine callS.eq (w24 x.expr hx) ?_
  ((try simp (maxSteps := 2000000) only [↓ S2, S2, vIte, ↓reduceIte, Int.reduceNe, Nat.reduceEqDiff, reduceCtorEq, Nat.reduceLeDiff, Nat.reduceAdd, Nat.reduceLT, XE]); (repeat (simp only [brGen]; try simp (maxSteps := 2000000) only [↓ S2, S2, vIte, ↓reduceIte, Int.reduceNe, Nat.reduceEqDiff, reduceCtorEq, Nat.reduceLeDiff, Nat.reduceAdd, Nat.reduceLT, XE])); (try simp +contextual (disch := omega) only [Z2]); (repeat' (first | (with_reducible intro h) | (with_reducible refine And.intro (by omega) ?_) | (with_reducible refine exP (by omega) ?_) | (with_reducible apply And.intro))))
theorem w154 (x : Con) (hx : smCo x) : Pure Try.prog 154 [Co x] (· = Co x) := by
  refine gstart mxd i154 rfl (by simp) ?_; simp (maxSteps := 2000000) only [↓ S2, S2, vIte, ↓reduceIte, Int.reduceNe, Nat.reduceEqDiff, reduceCtorEq, Nat.reduceLeDiff, Nat.reduceAdd, Nat.reduceLT]
  intro r hr
  try simp (maxSteps := 2000000) only [↓ S2, S2, vIte, ↓reduceIte, Int.reduceNe, Nat.reduceEqDiff, reduceCtorEq, Nat.reduceLeDiff, Nat.reduceAdd, Nat.reduceLT, XE]
  refine callS.eq (w24 x.goal hx.1) ?_
  simp (maxSteps := 2000000) only [↓ S2, S2, vIte, ↓reduceIte, Int.reduceNe, Nat.reduceEqDiff, reduceCtorEq, Nat.reduceLeDiff, Nat.reduceAdd, Nat.reduceLT, XE]
  refine callS.eq (w24 x.value hx.2) ?_
  ((try simp (maxSteps := 2000000) only [↓ S2, S2, vIte, ↓reduceIte, Int.reduceNe, Nat.reduceEqDiff, reduceCtorEq, Nat.reduceLeDiff, Nat.reduceAdd, Nat.reduceLT, XE]); (repeat (simp only [brGen]; try simp (maxSteps := 2000000) only [↓ S2, S2, vIte, ↓reduceIte, Int.reduceNe, Nat.reduceEqDiff, reduceCtorEq, Nat.reduceLeDiff, Nat.reduceAdd, Nat.reduceLT, XE])); (try simp +contextual (disch := omega) only [Z2]); (repeat' (first | (with_reducible intro h) | (with_reducible refine And.intro (by omega) ?_) | (with_reducible refine exP (by omega) ?_) | (with_reducible apply And.intro))))
theorem w46 (x : Rul) (hx : smRu x) : Pure Try.prog 46 [Ru x] (· = Ru x) := by
  obtain ⟨h1, h2, h3, h4, h5⟩ := hx
  refine gstart mxd i46 rfl (by simp) ?_; simp (maxSteps := 2000000) only [↓ S2, S2, vIte, ↓reduceIte, Int.reduceNe, Nat.reduceEqDiff, reduceCtorEq, Nat.reduceLeDiff, Nat.reduceAdd, Nat.reduceLT]
  intro r hr
  refine callS.eq (w106 _ h1) ?_
  simp (maxSteps := 2000000) only [↓ S2, S2, vIte, ↓reduceIte, Int.reduceNe, Nat.reduceEqDiff, reduceCtorEq, Nat.reduceLeDiff, Nat.reduceAdd, Nat.reduceLT]
  refine callS.eq (freezeS (fun _ => rfl) fun H => toSo mxd i107 (fun _ => rfl) (fun _ => rfl) (fun _ => rfl) (fun _ => rfl) x.eqs h2 (by decide) (fun x hm => w153 x (h4 x hm)) H) ?_
  simp (maxSteps := 2000000) only [↓ S2, S2, vIte, ↓reduceIte, Int.reduceNe, Nat.reduceEqDiff, reduceCtorEq, Nat.reduceLeDiff, Nat.reduceAdd, Nat.reduceLT]
  refine callS.eq (freezeS (fun _ => rfl) fun H => toSo mxd i108 (fun _ => rfl) (fun _ => rfl) (fun _ => rfl) (fun _ => rfl) x.cons h3 (by decide) (fun x hm => w154 x (h5 x hm)) H) ?_
  ((try simp (maxSteps := 2000000) only [↓ S2, S2, vIte, ↓reduceIte, Int.reduceNe, Nat.reduceEqDiff, reduceCtorEq, Nat.reduceLeDiff, Nat.reduceAdd, Nat.reduceLT]); (repeat (simp only [brGen]; try simp (maxSteps := 2000000) only [↓ S2, S2, vIte, ↓reduceIte, Int.reduceNe, Nat.reduceEqDiff, reduceCtorEq, Nat.reduceLeDiff, Nat.reduceAdd, Nat.reduceLT])); (try simp +contextual (disch := omega) only [Z2]); (repeat' (first | (with_reducible intro h) | (with_reducible refine And.intro (by omega) ?_) | (with_reducible refine exP (by omega) ?_) | (with_reducible apply And.intro))))
theorem w37 (g : Gram) (hx : smGr g) : Pure Try.prog 37 [Gr g] (· = Gr g) := by
  obtain ⟨h1, h2, h3, h4⟩ := hx
  refine gstart mxd i37 rfl (by simp) ?_; simp (maxSteps := 2000000) only [↓ S2, S2, vIte, ↓reduceIte, Int.reduceNe, Nat.reduceEqDiff, reduceCtorEq, Nat.reduceLeDiff, Nat.reduceAdd, Nat.reduceLT]
  intro r hr
  refine callS.eq (freezeS (fun _ => rfl) fun H => toSo mxd i93 (fun _ => rfl) (fun _ => rfl) (fun _ => rfl) (fun _ => rfl) g.syms h1 (by decide) (fun x hm => w147 x (h3 x hm)) H) ?_
  simp (maxSteps := 2000000) only [↓ S2, S2, vIte, ↓reduceIte, Int.reduceNe, Nat.reduceEqDiff, reduceCtorEq, Nat.reduceLeDiff, Nat.reduceAdd, Nat.reduceLT]
  refine callS.eq (freezeS (fun _ => rfl) fun H => toSo mxd i94 (fun _ => rfl) (fun _ => rfl) (fun _ => rfl) (fun _ => rfl) g.rules h2 (by decide) (fun x hm => w46 x (h4 x hm)) H) ?_
  ((try simp (maxSteps := 2000000) only [↓ S2, S2, vIte, ↓reduceIte, Int.reduceNe, Nat.reduceEqDiff, reduceCtorEq, Nat.reduceLeDiff, Nat.reduceAdd, Nat.reduceLT]); (repeat (simp only [brGen]; try simp (maxSteps := 2000000) only [↓ S2, S2, vIte, ↓reduceIte, Int.reduceNe, Nat.reduceEqDiff, reduceCtorEq, Nat.reduceLeDiff, Nat.reduceAdd, Nat.reduceLT])); (try simp +contextual (disch := omega) only [Z2]); (repeat' (first | (with_reducible intro h) | (with_reducible refine And.intro (by omega) ?_) | (with_reducible refine exP (by omega) ?_) | (with_reducible apply And.intro))))
theorem w53 (x y : Att) : Pure Try.prog 53 [At x, At y] (· = B (decide (x = y))) := by
  refine gstart mxd i53 rfl (by simp) ?_; simp (maxSteps := 2000000) only [↓ S2, S2, vIte, ↓reduceIte, Int.reduceNe, Nat.reduceEqDiff, reduceCtorEq, Nat.reduceLeDiff, Nat.reduceAdd, Nat.reduceLT]
  ((try simp (maxSteps := 2000000) only [↓ S2, S2, vIte, ↓reduceIte, Int.reduceNe, Nat.reduceEqDiff, reduceCtorEq, Nat.reduceLeDiff, Nat.reduceAdd, Nat.reduceLT]); (repeat (simp only [brGen]; try simp (maxSteps := 2000000) only [↓ S2, S2, vIte, ↓reduceIte, Int.reduceNe, Nat.reduceEqDiff, reduceCtorEq, Nat.reduceLeDiff, Nat.reduceAdd, Nat.reduceLT])); (try simp +contextual (disch := omega) only [Z2]); (repeat' (first | (with_reducible intro h) | (with_reducible refine And.intro (by omega) ?_) | (with_reducible refine exP (by omega) ?_) | (with_reducible apply And.intro)))) <;> simp_all [Att.ext_iff]
theorem w148 (x y : Sym) : Pure Try.prog 148 [Sy x, Sy y] (· = B (decide (x = y))) := by
  refine gstart mxd i148 rfl (by simp) ?_; simp (maxSteps := 2000000) only [↓ S2, S2, vIte, ↓reduceIte, Int.reduceNe, Nat.reduceEqDiff, reduceCtorEq, Nat.reduceLeDiff, Nat.reduceAdd, Nat.reduceLT]
  ((try simp (maxSteps := 2000000) only [↓ S2, S2, vIte, ↓reduceIte, Int.reduceNe, Nat.reduceEqDiff, reduceCtorEq, Nat.reduceLeDiff, Nat.reduceAdd, Nat.reduceLT]); (repeat (simp only [brGen]; try simp (maxSteps := 2000000) only [↓ S2, S2, vIte, ↓reduceIte, Int.reduceNe, Nat.reduceEqDiff, reduceCtorEq, Nat.reduceLeDiff, Nat.reduceAdd, Nat.reduceLT])); (try simp +contextual (disch := omega) only [Z2]); (repeat' (first | (with_reducible intro h) | (with_reducible refine And.intro (by omega) ?_) | (with_reducible refine exP (by omega) ?_) | (with_reducible apply And.intro))))
  rotate_left
  · simp_all [Sym.ext_iff]
  refine callS.eq (eqS mxd i179 (fun _ => rfl) (fun _ => rfl) x.atts y.atts fun a _ b _ => w53 a b) ?_
  ((try simp (maxSteps := 2000000) only [↓ S2, S2, vIte, ↓reduceIte, Int.reduceNe, Nat.reduceEqDiff, reduceCtorEq, Nat.reduceLeDiff, Nat.reduceAdd, Nat.reduceLT]); (repeat (simp only [brGen]; try simp (maxSteps := 2000000) only [↓ S2, S2, vIte, ↓reduceIte, Int.reduceNe, Nat.reduceEqDiff, reduceCtorEq, Nat.reduceLeDiff, Nat.reduceAdd, Nat.reduceLT])); (try simp +contextual (disch := omega) only [Z2]); (repeat' (first | (with_reducible intro h) | (with_reducible refine And.intro (by omega) ?_) | (with_reducible refine exP (by omega) ?_) | (with_reducible apply And.intro)))) <;> simp_all [Sym.ext_iff]
theorem w156 (x y : Eqn) : Pure Try.prog 156 [Qn x, Qn y] (· = B (decide (x = y))) := by
  refine gstart mxd i156 rfl (by simp) ?_; simp (maxSteps := 2000000) only [↓ S2, S2, vIte, ↓reduceIte, Int.reduceNe, Nat.reduceEqDiff, reduceCtorEq, Nat.reduceLeDiff, Nat.reduceAdd, Nat.reduceLT]
  refine callS.eq (w145 (x.pos, x.name) (y.pos, y.name)) ?_
  ((try simp (maxSteps := 2000000) only [↓ S2, S2, vIte, ↓reduceIte, Int.reduceNe, Nat.reduceEqDiff, reduceCtorEq, Nat.reduceLeDiff, Nat.reduceAdd, Nat.reduceLT, XE]); (repeat (simp only [brGen]; try simp (maxSteps := 2000000) only [↓ S2, S2, vIte, ↓reduceIte, Int.reduceNe, Nat.reduceEqDiff, reduceCtorEq, Nat.reduceLeDiff, Nat.reduceAdd, Nat.reduceLT, XE])); (try simp +contextual (disch := omega) only [Z2]); (repeat' (first | (with_reducible intro h) | (with_reducible refine And.intro (by omega) ?_) | (with_reducible refine exP (by omega) ?_) | (with_reducible apply And.intro))))
  rotate_left
  · simp_all [Eqn.ext_iff, Prod.ext_iff]
  refine callS.eq (w26 x.expr y.expr) ?_
  ((try simp (maxSteps := 2000000) only [↓ S2, S2, vIte, ↓reduceIte, Int.reduceNe, Nat.reduceEqDiff, reduceCtorEq, Nat.reduceLeDiff, Nat.reduceAdd, Nat.reduceLT]); (repeat (simp only [brGen]; try simp (maxSteps := 2000000) only [↓ S2, S2, vIte, ↓reduceIte, Int.reduceNe, Nat.reduceEqDiff, reduceCtorEq, Nat.reduceLeDiff, Nat.reduceAdd, Nat.reduceLT])); (try simp +contextual (disch := omega) only [Z2]); (repeat' (first | (with_reducible intro h) | (with_reducible refine And.intro (by omega) ?_) | (with_reducible refine exP (by omega) ?_) | (with_reducible apply And.intro)))) <;> simp_all [Eqn.ext_iff, Prod.ext_iff]
theorem w157 (x y : Con) : Pure Try.prog 157 [Co x, Co y] (· = B (decide (x = y))) := by
  refine gstart mxd i157 rfl (by simp) ?_; simp (maxSteps := 2000000) only [↓ S2, S2, vIte, ↓reduceIte, Int.reduceNe, Nat.reduceEqDiff, reduceCtorEq, Nat.reduceLeDiff, Nat.reduceAdd, Nat.reduceLT]
  ((try simp (maxSteps := 2000000) only [↓ S2, S2, vIte, ↓reduceIte, Int.reduceNe, Nat.reduceEqDiff, reduceCtorEq, Nat.reduceLeDiff, Nat.reduceAdd, Nat.reduceLT, XE]); (repeat (simp only [brGen]; try simp (maxSteps := 2000000) only [↓ S2, S2, vIte, ↓reduceIte, Int.reduceNe, Nat.reduceEqDiff, reduceCtorEq, Nat.reduceLeDiff, Nat.reduceAdd, Nat.reduceLT, XE])); (try simp +contextual (disch := omega) only [Z2]); (repeat' (first | (with_reducible intro h) | (with_reducible refine And.intro (by omega) ?_) | (with_reducible refine exP (by omega) ?_) | (with_reducible apply And.intro))))
  all_goals first
    | (simp [Con.ext_iff, *]; done)
    | skip
  refine callS.eq (w26 x.goal y.goal) ?_
  ((try simp (maxSteps := 2000000) only [↓ S2, S2, vIte, ↓reduceIte, Int.reduceNe, Nat.reduceEqDiff, reduceCtorEq, Nat.reduceLeDiff, Nat.reduceAdd, Nat.reduceLT, XE]); (repeat (simp only [brGen]; try simp (maxSteps := 2000000) only [↓ S2, S2, vIte, ↓reduceIte, Int.reduceNe, Nat.reduceEqDiff, reduceCtorEq, Nat.reduceLeDiff, Nat.reduceAdd, Nat.reduceLT, XE])); (try simp +contextual (disch := omega) only [Z2]); (repeat' (first | (with_reducible intro h) | (with_reducible refine And.intro (by omega) ?_) | (with_reducible refine exP (by omega) ?_) | (with_reducible apply And.intro))))
  rotate_left
  · simp_all [Con.ext_iff]
  refine callS.eq (w26 x.value y.value) ?_
  ((try simp (maxSteps := 2000000) only [↓ S2, S2, vIte, ↓reduceIte, Int.reduceNe, Nat.reduceEqDiff, reduceCtorEq, Nat.reduceLeDiff, Nat.reduceAdd, Nat.reduceLT]); (repeat (simp only [brGen]; try simp (maxSteps := 2000000) only [↓ S2, S2, vIte, ↓reduceIte, Int.reduceNe, Nat.reduceEqDiff, reduceCtorEq, Nat.reduceLeDiff, Nat.reduceAdd, Nat.reduceLT])); (try simp +contextual (disch := omega) only [Z2]); (repeat' (first | (with_reducible intro h) | (with_reducible refine And.intro (by omega) ?_) | (with_reducible refine exP (by omega) ?_) | (with_reducible apply And.intro)))) <;> simp_all [Con.ext_iff]
theorem w48 (x y : Rul) : Pure Try.prog 48 [Ru x, Ru y] (· = B (decide (x = y))) := by
  refine gstart mxd i48 rfl (by simp) ?_; simp (maxSteps := 2000000) only [↓ S2, S2, vIte, ↓reduceIte, Int.reduceNe, Nat.reduceEqDiff, reduceCtorEq, Nat.reduceLeDiff, Nat.reduceAdd, Nat.reduceLT]
  ((try simp (maxSteps := 2000000) only [↓ S2, S2, vIte, ↓reduceIte, Int.reduceNe, Nat.reduceEqDiff, reduceCtorEq, Nat.reduceLeDiff, Nat.reduceAdd, Nat.reduceLT]); (repeat (simp only [brGen]; try simp (maxSteps := 2000000) only [↓ S2, S2, vIte, ↓reduceIte, Int.reduceNe, Nat.reduceEqDiff, reduceCtorEq, Nat.reduceLeDiff, Nat.reduceAdd, Nat.reduceLT])); (try simp +contextual (disch := omega) only [Z2]); (repeat' (first | (with_reducible intro h) | (with_reducible refine And.intro (by omega) ?_) | (with_reducible refine exP (by omega) ?_) | (with_reducible apply And.intro))))
  all_goals first
    | (simp [Rul.ext_iff, *]; done)
    | skip
  refine callS.eq (w113 x.right y.right) ?_
  ((try simp (maxSteps := 2000000) only [↓ S2, S2, vIte, ↓reduceIte, Int.reduceNe, Nat.reduceEqDiff, reduceCtorEq, Nat.reduceLeDiff, Nat.reduceAdd, Nat.reduceLT]); (repeat (simp only [brGen]; try simp (maxSteps := 2000000) only [↓ S2, S2, vIte, ↓reduceIte, Int.reduceNe, Nat.reduceEqDiff, reduceCtorEq, Nat.reduceLeDiff, Nat.reduceAdd, Nat.reduceLT])); (try simp +contextual (disch := omega) only [Z2]); (repeat' (first | (with_reducible intro h) | (with_reducible refine And.intro (by omega) ?_) | (with_reducible refine exP (by omega) ?_) | (with_reducible apply And.intro))))
  all_goals first
    | (simp [Rul.ext_iff, *]; done)
    | (simp_all [Rul.ext_iff]; done)
    | skip
  refine callS.eq (eqS mxd i114 (fun _ => rfl) (fun _ => rfl) x.eqs y.eqs fun a _ b _ => w156 a b) ?_
  ((try simp (maxSteps := 2000000) only [↓ S2, S2, vIte, ↓reduceIte, Int.reduceNe, Nat.reduceEqDiff, reduceCtorEq, Nat.reduceLeDiff, Nat.reduceAdd, Nat.reduceLT]); (repeat (simp only [brGen]; try simp (maxSteps := 2000000) only [↓ S2, S2, vIte, ↓reduceIte, Int.reduceNe, Nat.reduceEqDiff, reduceCtorEq, Nat.reduceLeDiff, Nat.reduceAdd, Nat.reduceLT])); (try simp +contextual (disch := omega) only [Z2]); (repeat' (first | (with_reducible intro h) | (with_reducible refine And.intro (by omega) ?_) | (with_reducible refine exP (by omega) ?_) | (with_reducible apply And.intro))))
  rotate_left
  · simp_all [Rul.ext_iff]
  refine callS.eq (eqS mxd i115 (fun _ => rfl) (fun _ => rfl) x.cons y.cons fun a _ b _ => w157 a b) ?_
  ((try simp (maxSteps := 2000000) only [↓ S2, S2, vIte, ↓reduceIte, Int.reduceNe, Nat.reduceEqDiff, reduceCtorEq, Nat.reduceLeDiff, Nat.reduceAdd, Nat.reduceLT]); (repeat (simp only [brGen]; try simp (maxSteps := 2000000) only [↓ S2, S2, vIte, ↓reduceIte, Int.reduceNe, Nat.reduceEqDiff, reduceCtorEq, Nat.reduceLeDiff, Nat.reduceAdd, Nat.reduceLT])); (try simp +contextual (disch := omega) only [Z2]); (repeat' (first | (with_reducible intro h) | (with_reducible refine And.intro (by omega) ?_) | (with_reducible refine exP (by omega) ?_) | (with_reducible apply And.intro)))) <;> simp_all [Rul.ext_iff]
theorem w41 (x y : Gram) : Pure Try.prog 41 [Gr x, Gr y] (· = B (decide (x = y))) := by
  refine gstart mxd i41 rfl (by simp) ?_; simp (maxSteps := 2000000) only [↓ S2, S2, vIte, ↓reduceIte, Int.reduceNe, Nat.reduceEqDiff, reduceCtorEq, Nat.reduceLeDiff, Nat.reduceAdd, Nat.reduceLT]
  refine callS.eq (eqS mxd i95 (fun _ => rfl) (fun _ => rfl) x.syms y.syms fun a _ b _ => w148 a b) ?_
  ((try simp (maxSteps := 2000000) only [↓ S2, S2, vIte, ↓reduceIte, Int.reduceNe, Nat.reduceEqDiff, reduceCtorEq, Nat.reduceLeDiff, Nat.reduceAdd, Nat.reduceLT]); (repeat (simp only [brGen]; try simp (maxSteps := 2000000) only [↓ S2, S2, vIte, ↓reduceIte, Int.reduceNe, Nat.reduceEqDiff, reduceCtorEq, Nat.reduceLeDiff, Nat.reduceAdd, Nat.reduceLT])); (try simp +contextual (disch := omega) only [Z2]); (repeat' (first | (with_reducible intro h) | (with_reducible refine And.intro (by omega) ?_) | (with_reducible refine exP (by omega) ?_) | (with_reducible apply And.intro))))
  rotate_left
  · simp_all [Gram.ext_iff]
  refine callS.eq (eqS mxd i96 (fun _ => rfl) (fun _ => rfl) x.rules y.rules fun a _ b _ => w48 a b) ?_
  ((try simp (maxSteps := 2000000) only [↓ S2, S2, vIte, ↓reduceIte, Int.reduceNe, Nat.reduceEqDiff, reduceCtorEq, Nat.reduceLeDiff, Nat.reduceAdd, Nat.reduceLT]); (repeat (simp only [brGen]; try simp (maxSteps := 2000000) only [↓ S2, S2, vIte, ↓reduceIte, Int.reduceNe, Nat.reduceEqDiff, reduceCtorEq, Nat.reduceLeDiff, Nat.reduceAdd, Nat.reduceLT])); (try simp +contextual (disch := omega) only [Z2]); (repeat' (first | (with_reducible intro h) | (with_reducible refine And.intro (by omega) ?_) | (with_reducible refine exP (by omega) ?_) | (with_reducible apply And.intro)))) <;> simp_all [Gram.ext_iff]
end Go.Proofs.Ytajhihnbnonadaa

namespace Go.Proofs.Ytajhihnbnonadaa
open Go.Gh
set_option maxRecDepth 20000
set_option linter.unusedSimpArgs false
set_option linter.unusedVariables false
theorem w180 : ∀ (e : Exp), wEx e ≤ 1048576 → Pure Try.prog 180 [Ex e] (· = Ex e) := by
  refine Exp.indA fun e ih hw => ?_
  obtain ⟨hl, ha⟩ := args_small hw
  refine Pure.bor ?_
  refine gstart mxd i180 rfl (by simp) ?_; simp (maxSteps := 2000000) only [↓ S2, S2, vIte, ↓reduceIte, Int.reduceNe, Nat.reduceEqDiff, reduceCtorEq, Nat.reduceLeDiff, Nat.reduceAdd, Nat.reduceLT]
  ((try simp (maxSteps := 2000000) only [↓ S2, S2, vIte, ↓reduceIte, Int.reduceNe, Nat.reduceEqDiff, reduceCtorEq, Nat.reduceLeDiff, Nat.reduceAdd, Nat.reduceLT, XE]); (repeat (simp only [brGen]; try simp (maxSteps := 2000000) only [↓ S2, S2, vIte, ↓reduceIte, Int.reduceNe, Nat.reduceEqDiff, reduceCtorEq, Nat.reduceLeDiff, Nat.reduceAdd, Nat.reduceLT, XE])); (try simp +contextual (disch := omega) only [Z2]); (repeat' (first | (with_reducible intro h) | (with_reducible refine And.intro (by omega) ?_) | (with_reducible refine exP (by omega) ?_) | (with_reducible apply And.intro))))
  rename_i r hr q
  have h0 := neH_of h
  (replace h0 := h0; simp only [neH_cons, neH_nil, neA_cons, neA_nil, and_true, true_and] at h0)
  refine ploop mxd (ι := { x : Nat × Nat // x.2 ≤ e.args.length }) (fun x => [(1, .ptr r 7 0 0), (2, .raw 7), (3, .own x.1.1 7 0 x.1.2), (4, I x.1.2)]) (fun x => [(x.1.1, 7, (e.args.take x.1.2).map Ex), (r, 7, [Ex e])]) (fun x => e.args.length - x.1.2) ⟨(q, 0), by simp⟩ (by simp [E2]) (by simp [subH, hget, names, h0]) ?_
  rintro ⟨⟨q, i⟩, hi⟩ hn
  dsimp only at hi hn ⊢
  (replace hn := hn; simp only [neH_cons, neH_nil, neA_cons, neA_nil, and_true, true_and] at hn)
  ((try simp (maxSteps := 2000000) only [↓ S2, S2, vIte, ↓reduceIte, Int.reduceNe, Nat.reduceEqDiff, reduceCtorEq, Nat.reduceLeDiff, Nat.reduceAdd, Nat.reduceLT, XE, hget_c, hset_c, hdel_c, hn, t_ldf]); (repeat (simp only [brGen]; try simp (maxSteps := 2000000) only [↓ S2, S2, vIte, ↓reduceIte, Int.reduceNe, Nat.reduceEqDiff, reduceCtorEq, Nat.reduceLeDiff, Nat.reduceAdd, Nat.reduceLT, XE, hget_c, hset_c, hdel_c, hn, t_ldf])); (try simp +contextual (disch := omega) only [Z2]); (repeat' (first | (with_reducible intro h) | (with_reducible refine And.intro (by omega) ?_) | (with_reducible refine exP (by omega) ?_) | (with_reducible apply And.intro))))
  · refine callS.eq (ih _ (List.getElem_mem _) (ha _ (List.getElem_mem _))) ?_
    ((try simp (maxSteps := 2000000) only [↓ S2, S2, vIte, ↓reduceIte, Int.reduceNe, Nat.reduceEqDiff, reduceCtorEq, Nat.reduceLeDiff, Nat.reduceAdd, Nat.reduceLT, XE, hget_c, hset_c, hdel_c, hn, t_ldf]); (repeat (simp only [brGen]; try simp (maxSteps := 2000000) only [↓ S2, S2, vIte, ↓reduceIte, Int.reduceNe, Nat.reduceEqDiff, reduceCtorEq, Nat.reduceLeDiff, Nat.reduceAdd, Nat.reduceLT, XE, hget_c, hset_c, hdel_c, hn, t_ldf])); (try simp +contextual (disch := omega) only [Z2]); (repeat' (first | (with_reducible intro h) | (with_reducible refine And.intro (by omega) ?_) | (with_reducible refine exP (by omega) ?_) | (with_reducible apply And.intro))))
    rename_i q2
    have h2 := neH_of h
    (replace h2 := h2; simp only [neH_cons, neH_nil, neA_cons, neA_nil, and_true, true_and] at h2)
    ((try simp (maxSteps := 2000000) only [↓ S2, S2, vIte, ↓reduceIte, Int.reduceNe, Nat.reduceEqDiff, reduceCtorEq, Nat.reduceLeDiff, Nat.reduceAdd, Nat.reduceLT, XE, hget_c, hset_c, hdel_c, hn, h2, t_ldf]); (repeat (simp only [brGen]; try simp (maxSteps := 2000000) only [↓ S2, S2, vIte, ↓reduceIte, Int.reduceNe, Nat.reduceEqDiff, reduceCtorEq, Nat.reduceLeDiff, Nat.reduceAdd, Nat.reduceLT, XE, hget_c, hset_c, hdel_c, hn, h2, t_ldf])); (try simp +contextual (disch := omega) only [Z2]); (repeat' (first | (with_reducible intro h) | (with_reducible refine And.intro (by omega) ?_) | (with_reducible refine exP (by omega) ?_) | (with_reducible apply And.intro))))
    · simp; omega
    rename_i q3
    have h3 := neH_of h
    (replace h3 := h3; simp only [neH_cons, neH_nil, neA_cons, neA_nil, and_true, true_and] at h3)
    rw [takeApp Ex e.args i (by assumption)]
    exact px ⟨(q3, i + 1), by omega⟩ (by simp; omega) (by simp [E2]) (by simp [subH, hget, names, h3])
  · rw [Ex_eq e]
    refine .agg (.cons .refl (.cons .refl (.cons .refl (.cons .refl (.cons .refl (.cons .refl (.cons ?_ .nil)))))))
    have : i = e.args.length := by omega
    subst this
    rw [List.take_length]
    exact Bor.allM view_Ex hget_new rfl
theorem w98 (g : Gram) (s : ByteArray) (hg : smGr g) : Pure Try.prog 98 [Gr g, T s] (· = .tup [Ru (fRul g.rules s), B (hRul g.rules s)]) := by
  refine Pure.bor ?_
  have hlen := hg.2.1
  refine gstart mxd i98 rfl (by simp) ?_; simp (maxSteps := 2000000) only [↓ S2, S2, vIte, ↓reduceIte, Int.reduceNe, Nat.reduceEqDiff, reduceCtorEq, Nat.reduceLeDiff, Nat.reduceAdd, Nat.reduceLT]
  refine wloop mxd (ι := { i : Nat // i ≤ g.rules.length ∧ ∀ y ∈ g.rules.take i, decide (y.name = s) = false }) (fun i => [(1, T s), (4, .raw 6), (9, RuS g.rules), (10, I g.rules.length), (11, I i.1)]) (fun _ => []) (fun i => g.rules.length - i.1) ⟨0, by simp⟩ (by simp [E2]) rfl ?_
  rintro ⟨i, hi, hn⟩
  ((try simp (maxSteps := 2000000) only [↓ S2, S2, vIte, ↓reduceIte, Int.reduceNe, Nat.reduceEqDiff, reduceCtorEq, Nat.reduceLeDiff, Nat.reduceAdd, Nat.reduceLT]); (repeat (simp only [brGen]; try simp (maxSteps := 2000000) only [↓ S2, S2, vIte, ↓reduceIte, Int.reduceNe, Nat.reduceEqDiff, reduceCtorEq, Nat.reduceLeDiff, Nat.reduceAdd, Nat.reduceLT])); (try simp +contextual (disch := omega) only [Z2]); (repeat' (first | (with_reducible intro h) | (with_reducible refine And.intro (by omega) ?_) | (with_reducible refine exP (by omega) ?_) | (with_reducible apply And.intro))))
  · subst h
    have e := find_hit (p := fun x : Rul => decide (x.name = g.rules[i].name)) (xs := g.rules) (i := i) (by assumption) (by simp) hn
    simp only [fRul, hRul, e]
    exact .refl
  · exact nx ⟨i + 1, by omega, take_step (by assumption) (by simp [*]) hn⟩ (by simp; omega) (by simp [E2]) rfl
  · have : i = g.rules.length := by omega
    subst this
    rw [List.take_of_length_le (Nat.le_refl _)] at hn
    have e := find_none hn
    simp only [fRul, hRul, e]
    exact .tup (.cons (.agg (.cons .refl (.cons .refl (.cons .nil (.cons .refl (.cons .nil (.cons .nil .nil))))))) (.cons .refl .nil))
end Go.Proofs.Ytajhihnbnonadaa

namespace Go.Proofs.Ytajhihnbnonadaa
open Go.Gh
set_option maxRecDepth 20000
set_option linter.unusedSimpArgs false
set_option linter.unusedVariables false
theorem w164 (x y : Int) : Pure Try.prog 164 [I x, I y] (· = I (max x y)) := by
  refine gstart mxd i164 rfl (by simp) ?_; simp (maxSteps := 2000000) only [↓ S2, S2, vIte, ↓reduceIte, Int.reduceNe, Nat.reduceEqDiff, reduceCtorEq, Nat.reduceLeDiff, Nat.reduceAdd, Nat.reduceLT]
  ((try simp (maxSteps := 2000000) only [↓ S2, S2, vIte, ↓reduceIte, Int.reduceNe, Nat.reduceEqDiff, reduceCtorEq, Nat.reduceLeDiff, Nat.reduceAdd, Nat.reduceLT]); (repeat (simp only [brGen]; try simp (maxSteps := 2000000) only [↓ S2, S2, vIte, ↓reduceIte, Int.reduceNe, Nat.reduceEqDiff, reduceCtorEq, Nat.reduceLeDiff, Nat.reduceAdd, Nat.reduceLT])); (try simp +contextual (disch := omega) only [Z2]); (repeat' (first | (with_reducible intro h) | (with_reducible refine And.intro (by omega) ?_) | (with_reducible refine exP (by omega) ?_) | (with_reducible apply And.intro)))) <;> simp <;> omega
end Go.Proofs.Ytajhihnbnonadaa

namespace Go.Proofs.Ytajhihnbnonadaa
open Go.Gh
set_option maxRecDepth 20000
set_option linter.unusedSimpArgs false
set_option linter.unusedVariables false
theorem w149 (e : Rul) (hr : smRu e) : Pure Try.prog 149 [Ru e] (· = Ru e) := by
  obtain ⟨h1, h2, h3, h4, h5⟩ := hr
  refine Pure.bor ?_
  refine gstart mxd i149 rfl (by simp) ?_; simp (maxSteps := 2000000) only [↓ S2, S2, vIte, ↓reduceIte, Int.reduceNe, Nat.reduceEqDiff, reduceCtorEq, Nat.reduceLeDiff, Nat.reduceAdd, Nat.reduceLT]
  ((try simp (maxSteps := 2000000) only [↓ S2, S2, vIte, ↓reduceIte, Int.reduceNe, Nat.reduceEqDiff, reduceCtorEq, Nat.reduceLeDiff, Nat.reduceAdd, Nat.reduceLT, XE]); (repeat (simp only [brGen]; try simp (maxSteps := 2000000) only [↓ S2, S2, vIte, ↓reduceIte, Int.reduceNe, Nat.reduceEqDiff, reduceCtorEq, Nat.reduceLeDiff, Nat.reduceAdd, Nat.reduceLT, XE])); (try simp +contextual (disch := omega) only [Z2]); (repeat' (first | (with_reducible intro h) | (with_reducible refine And.intro (by omega) ?_) | (with_reducible refine exP (by omega) ?_) | (with_reducible apply And.intro))))
  rename_i ra _ rr _ r0
  have h0 := neH_of h
  (replace h0 := h0; simp only [neH_cons, neH_nil, neA_cons, neA_nil, and_true, true_and] at h0)
  obtain ⟨v, ho, hv⟩ := vfresh [r0, rr]
  refine ploopF mxd (ι := { x : Nat × Nat // x.2 ≤ e.eqs.length }) (fun x => [(1, .rop 6 (Ru e)), (2, .raw 6), (3, .ptr r0 6 0 0), (4, I x.1.2)])
    (fun x => [(x.1.1, 9, (e.eqs.take x.1.2).map Qn), (r0, 6, [.agg [T e.name, T e.left, .own rr 1 0 e.right.length, B e.lit, .own x.1.1 9 0 x.1.2, .val (.slice none 0 0)]]), (rr, 1, e.right.map T)])
    (fun x => e.eqs.length - x.1.2) ⟨(v, 0), by simp⟩ (FE.virtF (i := 0) (j := 4) (sz1 := 9) hget_new rfl rfl ho hv) (by simp [E2]) ?_ ?_
  · simp only [List.mem_cons, List.not_mem_nil, or_false, not_or] at hv
    simp [subH, hget, hset, names, h0, hv]
  rintro ⟨⟨q, i⟩, hi⟩ hn
  dsimp only at hi hn ⊢
  (replace hn := hn; simp only [neH_cons, neH_nil, neA_cons, neA_nil, and_true, true_and] at hn)
  ((try simp (maxSteps := 2000000) only [↓ S2, S2, vIte, ↓reduceIte, Int.reduceNe, Nat.reduceEqDiff, reduceCtorEq, Nat.reduceLeDiff, Nat.reduceAdd, Nat.reduceLT, XE, hget_c, hset_c, hdel_c, hn, t_ldf]); (repeat (simp only [brGen]; try simp (maxSteps := 2000000) only [↓ S2, S2, vIte, ↓reduceIte, Int.reduceNe, Nat.reduceEqDiff, reduceCtorEq, Nat.reduceLeDiff, Nat.reduceAdd, Nat.reduceLT, XE, hget_c, hset_c, hdel_c, hn, t_ldf])); (try simp +contextual (disch := omega) only [Z2]); (repeat' (first | (with_reducible intro h) | (with_reducible refine And.intro (by omega) ?_) | (with_reducible refine exP (by omega) ?_) | (with_reducible apply And.intro))))
  · refine callS.eq (w180 _ (h4 _ (List.getElem_mem _))) ?_
    ((try simp (maxSteps := 2000000) only [↓ S2, S2, vIte, ↓reduceIte, Int.reduceNe, Nat.reduceEqDiff, reduceCtorEq, Nat.reduceLeDiff, Nat.reduceAdd, Nat.reduceLT, XE, hget_c, hset_c, hdel_c, hn, t_ldf]); (repeat (simp only [brGen]; try simp (maxSteps := 2000000) only [↓ S2, S2, vIte, ↓reduceIte, Int.reduceNe, Nat.reduceEqDiff, reduceCtorEq, Nat.reduceLeDiff, Nat.reduceAdd, Nat.reduceLT, XE, hget_c, hset_c, hdel_c, hn, t_ldf])); (try simp +contextual (disch := omega) only [Z2]); (repeat' (first | (with_reducible intro h) | (with_reducible refine And.intro (by omega) ?_) | (with_reducible refine exP (by omega) ?_) | (with_reducible apply And.intro))))
    rename_i q2
    have h2 := neH_of h
    (replace h2 := h2; simp only [neH_cons, neH_nil, neA_cons, neA_nil, and_true, true_and] at h2)
    ((try simp (maxSteps := 2000000) only [↓ S2, S2, vIte, ↓reduceIte, Int.reduceNe, Nat.reduceEqDiff, reduceCtorEq, Nat.reduceLeDiff, Nat.reduceAdd, Nat.reduceLT, XE, hget_c, hset_c, hdel_c, hn, h2, t_ldf]); (repeat (simp only [brGen]; try simp (maxSteps := 2000000) only [↓ S2, S2, vIte, ↓reduceIte, Int.reduceNe, Nat.reduceEqDiff, reduceCtorEq, Nat.reduceLeDiff, Nat.reduceAdd, Nat.reduceLT, XE, hget_c, hset_c, hdel_c, hn, h2, t_ldf])); (try simp +contextual (disch := omega) only [Z2]); (repeat' (first | (with_reducible intro h) | (with_reducible refine And.intro (by omega) ?_) | (with_reducible refine exP (by omega) ?_) | (with_reducible apply And.intro))))
    · simp; omega
    rename_i q3
    have h3 := neH_of h
    (replace h3 := h3; simp only [neH_cons, neH_nil, neA_cons, neA_nil, and_true, true_and] at h3)
    ((try simp (maxSteps := 2000000) only [↓ S2, S2, vIte, ↓reduceIte, Int.reduceNe, Nat.reduceEqDiff, reduceCtorEq, Nat.reduceLeDiff, Nat.reduceAdd, Nat.reduceLT, XE, hget_c, hset_c, hdel_c, hn, h2, h3, t_ldf]); (repeat (simp only [brGen]; try simp (maxSteps := 2000000) only [↓ S2, S2, vIte, ↓reduceIte, Int.reduceNe, Nat.reduceEqDiff, reduceCtorEq, Nat.reduceLeDiff, Nat.reduceAdd, Nat.reduceLT, XE, hget_c, hset_c, hdel_c, hn, h2, h3, t_ldf])); (try simp +contextual (disch := omega) only [Z2]); (repeat' (first | (with_reducible intro h) | (with_reducible refine And.intro (by omega) ?_) | (with_reducible refine exP (by omega) ?_) | (with_reducible apply And.intro))))
    rw [takeApp Qn e.eqs i (by assumption)]
    exact px ⟨(q3, i + 1), by omega⟩ (by simp; omega) (by simp [E2]) (by simp [subH, hget, names, h3])
  · have : i = e.eqs.length := by omega
    subst this
    rw [List.take_length]
    obtain ⟨v, ho, hv⟩ := vfresh [q, r0, rr]
    refine ploopF mxd (ι := { x : Nat × Nat // x.2 ≤ e.cons.length }) (fun x => [(1, .rop 6 (Ru e)), (2, .raw 6), (3, .ptr r0 6 0 0), (5, I x.1.2)])
      (fun x => [(x.1.1, 16, (e.cons.take x.1.2).map Co), (q, 9, e.eqs.map Qn), (r0, 6, [.agg [T e.name, T e.left, .own rr 1 0 e.right.length, B e.lit, .own q 9 0 e.eqs.length, .own x.1.1 16 0 x.1.2]]), (rr, 1, e.right.map T)])
      (fun x => e.cons.length - x.1.2) ⟨(v, 0), by simp⟩ (FE.virtF (r := r0) (i := 0) (j := 5) (sz1 := 16) (by simp [hget, hn]; exact ⟨rfl, rfl⟩) rfl rfl ho hv) (by simp [E2]) ?_ ?_
    · simp only [List.mem_cons, List.not_mem_nil, or_false, not_or] at hv
      simp [subH, hget, hset, names, hn, hv]
    rintro ⟨⟨p, i⟩, hi⟩ hn
    dsimp only at hi hn ⊢
    (replace hn := hn; simp only [neH_cons, neH_nil, neA_cons, neA_nil, and_true, true_and] at hn)
    ((try simp (maxSteps := 2000000) only [↓ S2, S2, vIte, ↓reduceIte, Int.reduceNe, Nat.reduceEqDiff, reduceCtorEq, Nat.reduceLeDiff, Nat.reduceAdd, Nat.reduceLT, XE, hget_c, hset_c, hdel_c, hn, t_ldf]); (repeat (simp only [brGen]; try simp (maxSteps := 2000000) only [↓ S2, S2, vIte, ↓reduceIte, Int.reduceNe, Nat.reduceEqDiff, reduceCtorEq, Nat.reduceLeDiff, Nat.reduceAdd, Nat.reduceLT, XE, hget_c, hset_c, hdel_c, hn, t_ldf])); (try simp +contextual (disch := omega) only [Z2]); (repeat' (first | (with_reducible intro h) | (with_reducible refine And.intro (by omega) ?_) | (with_reducible refine exP (by omega) ?_) | (with_reducible apply And.intro))))
    · refine callS.eq (w180 _ (h5 _ (List.getElem_mem _)).1) ?_
      ((try simp (maxSteps := 2000000) only [↓ S2, S2, vIte, ↓reduceIte, Int.reduceNe, Nat.reduceEqDiff, reduceCtorEq, Nat.reduceLeDiff, Nat.reduceAdd, Nat.reduceLT, XE, hget_c, hset_c, hdel_c, hn, t_ldf]); (repeat (simp only [brGen]; try simp (maxSteps := 2000000) only [↓ S2, S2, vIte, ↓reduceIte, Int.reduceNe, Nat.reduceEqDiff, reduceCtorEq, Nat.reduceLeDiff, Nat.reduceAdd, Nat.reduceLT, XE, hget_c, hset_c, hdel_c, hn, t_ldf])); (try simp +contextual (disch := omega) only [Z2]); (repeat' (first | (with_reducible intro h) | (with_reducible refine And.intro (by omega) ?_) | (with_reducible refine exP (by omega) ?_) | (with_reducible apply And.intro))))
      refine callS.eq (w180 _ (h5 _ (List.getElem_mem _)).2) ?_
      ((try simp (maxSteps := 2000000) only [↓ S2, S2, vIte, ↓reduceIte, Int.reduceNe, Nat.reduceEqDiff, reduceCtorEq, Nat.reduceLeDiff, Nat.reduceAdd, Nat.reduceLT, XE, hget_c, hset_c, hdel_c, hn, t_ldf]); (repeat (simp only [brGen]; try simp (maxSteps := 2000000) only [↓ S2, S2, vIte, ↓reduceIte, Int.reduceNe, Nat.reduceEqDiff, reduceCtorEq, Nat.reduceLeDiff, Nat.reduceAdd, Nat.reduceLT, XE, hget_c, hset_c, hdel_c, hn, t_ldf])); (try simp +contextual (disch := omega) only [Z2]); (repeat' (first | (with_reducible intro h) | (with_reducible refine And.intro (by omega) ?_) | (with_reducible refine exP (by omega) ?_) | (with_reducible apply And.intro))))
      rename_i q2
      have h2 := neH_of h
      (replace h2 := h2; simp only [neH_cons, neH_nil, neA_cons, neA_nil, and_true, true_and] at h2)
      ((try simp (maxSteps := 2000000) only [↓ S2, S2, vIte, ↓reduceIte, Int.reduceNe, Nat.reduceEqDiff, reduceCtorEq, Nat.reduceLeDiff, Nat.reduceAdd, Nat.reduceLT, XE, hget_c, hset_c, hdel_c, hn, h2, t_ldf]); (repeat (simp only [brGen]; try simp (maxSteps := 2000000) only [↓ S2, S2, vIte, ↓reduceIte, Int.reduceNe, Nat.reduceEqDiff, reduceCtorEq, Nat.reduceLeDiff, Nat.reduceAdd, Nat.reduceLT, XE, hget_c, hset_c, hdel_c, hn, h2, t_ldf])); (try simp +contextual (disch := omega) only [Z2]); (repeat' (first | (with_reducible intro h) | (with_reducible refine And.intro (by omega) ?_) | (with_reducible refine exP (by omega) ?_) | (with_reducible apply And.intro))))
      · simp; omega
      rename_i q3
      have h3 := neH_of h
      (replace h3 := h3; simp only [neH_cons, neH_nil, neA_cons, neA_nil, and_true, true_and] at h3)
      ((try simp (maxSteps := 2000000) only [↓ S2, S2, vIte, ↓reduceIte, Int.reduceNe, Nat.reduceEqDiff, reduceCtorEq, Nat.reduceLeDiff, Nat.reduceAdd, Nat.reduceLT, XE, hget_c, hset_c, hdel_c, hn, h2, h3, t_ldf]); (repeat (simp only [brGen]; try simp (maxSteps := 2000000) only [↓ S2, S2, vIte, ↓reduceIte, Int.reduceNe, Nat.reduceEqDiff, reduceCtorEq, Nat.reduceLeDiff, Nat.reduceAdd, Nat.reduceLT, XE, hget_c, hset_c, hdel_c, hn, h2, h3, t_ldf])); (try simp +contextual (disch := omega) only [Z2]); (repeat' (first | (with_reducible intro h) | (with_reducible refine And.intro (by omega) ?_) | (with_reducible refine exP (by omega) ?_) | (with_reducible apply And.intro))))
      rw [takeApp Co e.cons i (by assumption)]
      exact px ⟨(q3, i + 1), by omega⟩ (by simp; omega) (by simp [E2]) (by simp [subH, hget, names, h3])
    · have : i = e.cons.length := by omega
      subst this
      rw [List.take_length]
      exact .agg (.cons .refl (.cons .refl (.cons (Bor.allM (fun _ => rfl) (by simp [hget, hn]) rfl) (.cons .refl (.cons (Bor.allM (fun _ => rfl) (by simp [hget, hn]) rfl) (.cons (Bor.allM (fun _ => rfl) (by simp [hget, hn]) rfl) .nil))))))
theorem w97 (g : Gram) (s : ByteArray) (hg : smGr g) : Pure Try.prog 97 [Gr g, T s] (· = .tup [Ru (fRul g.rules s), B (hRul g.rules s)]) := by
  refine Pure.bor ?_
  have hlen := hg.2.1
  refine gstart mxd i97 rfl (by simp) ?_; simp (maxSteps := 2000000) only [↓ S2, S2, vIte, ↓reduceIte, Int.reduceNe, Nat.reduceEqDiff, reduceCtorEq, Nat.reduceLeDiff, Nat.reduceAdd, Nat.reduceLT]
  refine wloop mxd (ι := { i : Nat // i ≤ g.rules.length ∧ ∀ y ∈ g.rules.take i, decide (y.name = s) = false }) (fun i => [(1, T s), (2, .rop 2 (Gr g)), (4, .raw 6), (6, I i.1)]) (fun _ => []) (fun i => g.rules.length - i.1) ⟨0, by simp⟩ (by simp [E2]) rfl ?_
  rintro ⟨i, hi, hn⟩
  ((try simp (maxSteps := 2000000) only [↓ S2, S2, vIte, ↓reduceIte, Int.reduceNe, Nat.reduceEqDiff, reduceCtorEq, Nat.reduceLeDiff, Nat.reduceAdd, Nat.reduceLT]); (repeat (simp only [brGen]; try simp (maxSteps := 2000000) only [↓ S2, S2, vIte, ↓reduceIte, Int.reduceNe, Nat.reduceEqDiff, reduceCtorEq, Nat.reduceLeDiff, Nat.reduceAdd, Nat.reduceLT])); (try simp +contextual (disch := omega) only [Z2]); (repeat' (first | (with_reducible intro h) | (with_reducible refine And.intro (by omega) ?_) | (with_reducible refine exP (by omega) ?_) | (with_reducible apply And.intro))))
  · subst h
    refine callS.eq (w149 g.rules[i] (hg.2.2.2 _ (List.getElem_mem _))) ?_
    ((try simp (maxSteps := 2000000) only [↓ S2, S2, vIte, ↓reduceIte, Int.reduceNe, Nat.reduceEqDiff, reduceCtorEq, Nat.reduceLeDiff, Nat.reduceAdd, Nat.reduceLT]); (repeat (simp only [brGen]; try simp (maxSteps := 2000000) only [↓ S2, S2, vIte, ↓reduceIte, Int.reduceNe, Nat.reduceEqDiff, reduceCtorEq, Nat.reduceLeDiff, Nat.reduceAdd, Nat.reduceLT])); (try simp +contextual (disch := omega) only [Z2]); (repeat' (first | (with_reducible intro h) | (with_reducible refine And.intro (by omega) ?_) | (with_reducible refine exP (by omega) ?_) | (with_reducible apply And.intro))))
    have e := find_hit (p := fun x : Rul => decide (x.name = g.rules[i].name)) (xs := g.rules) (i := i) (by assumption) (by simp) hn
    simp only [fRul, hRul, e]
    exact .refl
  · exact nx ⟨i + 1, by omega, take_step (by assumption) (by simp [*]) hn⟩ (by simp; omega) (by simp [E2]) rfl
  · have : i = g.rules.length := by omega
    subst this
    rw [List.take_of_length_le (Nat.le_refl _)] at hn
    have e := find_none hn
    simp only [fRul, hRul, e]
    exact .tup (.cons (.agg (.cons .refl (.cons .refl (.cons .nil (.cons .refl (.cons .nil (.cons .nil .nil))))))) (.cons .refl .nil))
end Go.Proofs.Ytajhihnbnonadaa

namespace Go.Proofs.Ytajhihnbnonadaa
open Go.Gh
set_option maxRecDepth 20000
set_option linter.unusedSimpArgs false
set_option linter.unusedVariables false
end Go.Proofs.Ytajhihnbnonadaa

namespace Go.Proofs.Ytajhihnbnonadaa
open Go.Gh
set_option maxRecDepth 20000
set_option linter.unusedSimpArgs false
set_option linter.unusedVariables false
theorem w169 (b : Bool) : Pure Try.prog 169 [B b] (· = I (trV b)) := by
  refine gstart mxd i169 rfl (by simp) ?_; simp (maxSteps := 2000000) only [↓ S2, S2, vIte, ↓reduceIte, Int.reduceNe, Nat.reduceEqDiff, reduceCtorEq, Nat.reduceLeDiff, Nat.reduceAdd, Nat.reduceLT]
  ((try simp (maxSteps := 2000000) only [↓ S2, S2, vIte, ↓reduceIte, Int.reduceNe, Nat.reduceEqDiff, reduceCtorEq, Nat.reduceLeDiff, Nat.reduceAdd, Nat.reduceLT]); (repeat (simp only [brGen]; try simp (maxSteps := 2000000) only [↓ S2, S2, vIte, ↓reduceIte, Int.reduceNe, Nat.reduceEqDiff, reduceCtorEq, Nat.reduceLeDiff, Nat.reduceAdd, Nat.reduceLT])); (try simp +contextual (disch := omega) only [Z2]); (repeat' (first | (with_reducible intro h) | (with_reducible refine And.intro (by omega) ?_) | (with_reducible refine exP (by omega) ?_) | (with_reducible apply And.intro)))) <;> simp_all [trV]
theorem w168 (a b : Int) : Pure Try.prog 168 [I a, I b] (· = I (min a b)) := by
  refine gstart mxd i168 rfl (by simp) ?_; simp (maxSteps := 2000000) only [↓ S2, S2, vIte, ↓reduceIte, Int.reduceNe, Nat.reduceEqDiff, reduceCtorEq, Nat.reduceLeDiff, Nat.reduceAdd, Nat.reduceLT]
  ((try simp (maxSteps := 2000000) only [↓ S2, S2, vIte, ↓reduceIte, Int.reduceNe, Nat.reduceEqDiff, reduceCtorEq, Nat.reduceLeDiff, Nat.reduceAdd, Nat.reduceLT]); (repeat (simp only [brGen]; try simp (maxSteps := 2000000) only [↓ S2, S2, vIte, ↓reduceIte, Int.reduceNe, Nat.reduceEqDiff, reduceCtorEq, Nat.reduceLeDiff, Nat.reduceAdd, Nat.reduceLT])); (try simp +contextual (disch := omega) only [Z2]); (repeat' (first | (with_reducible intro h) | (with_reducible refine And.intro (by omega) ?_) | (with_reducible refine exP (by omega) ?_) | (with_reducible apply And.intro)))) <;> (congr 2; omega)
theorem w167 (n : Int) : Pure Try.prog 167 [I n] (· = I (satV n)) := by
  refine gstart mxd i167 rfl (by simp) ?_; simp (maxSteps := 2000000) only [↓ S2, S2, vIte, ↓reduceIte, Int.reduceNe, Nat.reduceEqDiff, reduceCtorEq, Nat.reduceLeDiff, Nat.reduceAdd, Nat.reduceLT]
  refine callS.eq (w168 _ _) ?_
  ((try simp (maxSteps := 2000000) only [↓ S2, S2, vIte, ↓reduceIte, Int.reduceNe, Nat.reduceEqDiff, reduceCtorEq, Nat.reduceLeDiff, Nat.reduceAdd, Nat.reduceLT]); (repeat (simp only [brGen]; try simp (maxSteps := 2000000) only [↓ S2, S2, vIte, ↓reduceIte, Int.reduceNe, Nat.reduceEqDiff, reduceCtorEq, Nat.reduceLeDiff, Nat.reduceAdd, Nat.reduceLT])); (try simp +contextual (disch := omega) only [Z2]); (repeat' (first | (with_reducible intro h) | (with_reducible refine And.intro (by omega) ?_) | (with_reducible refine exP (by omega) ?_) | (with_reducible apply And.intro))))
  refine callS.eq (w164 _ _) ?_
  ((try simp (maxSteps := 2000000) only [↓ S2, S2, vIte, ↓reduceIte, Int.reduceNe, Nat.reduceEqDiff, reduceCtorEq, Nat.reduceLeDiff, Nat.reduceAdd, Nat.reduceLT]); (repeat (simp only [brGen]; try simp (maxSteps := 2000000) only [↓ S2, S2, vIte, ↓reduceIte, Int.reduceNe, Nat.reduceEqDiff, reduceCtorEq, Nat.reduceLeDiff, Nat.reduceAdd, Nat.reduceLT])); (try simp +contextual (disch := omega) only [Z2]); (repeat' (first | (with_reducible intro h) | (with_reducible refine And.intro (by omega) ?_) | (with_reducible refine exP (by omega) ?_) | (with_reducible apply And.intro)))) <;> rfl
theorem w166 (v k : Int) : Pure Try.prog 166 [I v, I k] (· = I (coV v k)) := by
  refine gstart mxd i166 rfl (by simp) ?_; simp (maxSteps := 2000000) only [↓ S2, S2, vIte, ↓reduceIte, Int.reduceNe, Nat.reduceEqDiff, reduceCtorEq, Nat.reduceLeDiff, Nat.reduceAdd, Nat.reduceLT]
  ((try simp (maxSteps := 2000000) only [↓ S2, S2, vIte, ↓reduceIte, Int.reduceNe, Nat.reduceEqDiff, reduceCtorEq, Nat.reduceLeDiff, Nat.reduceAdd, Nat.reduceLT]); (repeat (simp only [brGen]; try simp (maxSteps := 2000000) only [↓ S2, S2, vIte, ↓reduceIte, Int.reduceNe, Nat.reduceEqDiff, reduceCtorEq, Nat.reduceLeDiff, Nat.reduceAdd, Nat.reduceLT])); (try simp +contextual (disch := omega) only [Z2]); (repeat' (first | (with_reducible intro h) | (with_reducible refine And.intro (by omega) ?_) | (with_reducible refine exP (by omega) ?_) | (with_reducible apply And.intro))))
  · refine callS.eq (w167 _) ?_
    ((try simp (maxSteps := 2000000) only [↓ S2, S2, vIte, ↓reduceIte, Int.reduceNe, Nat.reduceEqDiff, reduceCtorEq, Nat.reduceLeDiff, Nat.reduceAdd, Nat.reduceLT]); (repeat (simp only [brGen]; try simp (maxSteps := 2000000) only [↓ S2, S2, vIte, ↓reduceIte, Int.reduceNe, Nat.reduceEqDiff, reduceCtorEq, Nat.reduceLeDiff, Nat.reduceAdd, Nat.reduceLT])); (try simp +contextual (disch := omega) only [Z2]); (repeat' (first | (with_reducible intro h) | (with_reducible refine And.intro (by omega) ?_) | (with_reducible refine exP (by omega) ?_) | (with_reducible apply And.intro)))) <;> simp_all [coV]
  · simp_all [coV]
  · refine callS.eq (w169 _) ?_
    ((try simp (maxSteps := 2000000) only [↓ S2, S2, vIte, ↓reduceIte, Int.reduceNe, Nat.reduceEqDiff, reduceCtorEq, Nat.reduceLeDiff, Nat.reduceAdd, Nat.reduceLT]); (repeat (simp only [brGen]; try simp (maxSteps := 2000000) only [↓ S2, S2, vIte, ↓reduceIte, Int.reduceNe, Nat.reduceEqDiff, reduceCtorEq, Nat.reduceLeDiff, Nat.reduceAdd, Nat.reduceLT])); (try simp +contextual (disch := omega) only [Z2]); (repeat' (first | (with_reducible intro h) | (with_reducible refine And.intro (by omega) ?_) | (with_reducible refine exP (by omega) ?_) | (with_reducible apply And.intro)))) <;> simp_all [coV]
  · refine callS.eq (w92 _ _ _) ?_
    ((try simp (maxSteps := 2000000) only [↓ S2, S2, vIte, ↓reduceIte, Int.reduceNe, Nat.reduceEqDiff, reduceCtorEq, Nat.reduceLeDiff, Nat.reduceAdd, Nat.reduceLT]); (repeat (simp only [brGen]; try simp (maxSteps := 2000000) only [↓ S2, S2, vIte, ↓reduceIte, Int.reduceNe, Nat.reduceEqDiff, reduceCtorEq, Nat.reduceLeDiff, Nat.reduceAdd, Nat.reduceLT])); (try simp +contextual (disch := omega) only [Z2]); (repeat' (first | (with_reducible intro h) | (with_reducible refine And.intro (by omega) ?_) | (with_reducible refine exP (by omega) ?_) | (with_reducible apply And.intro)))) <;> simp_all [coV] <;> (intros; omega)
  · simp_all [coV]
theorem w162 (v k : Int) : Pure Try.prog 162 [I v, I k] (· = B (okV v k)) := by
  refine gstart mxd i162 rfl (by simp) ?_; simp (maxSteps := 2000000) only [↓ S2, S2, vIte, ↓reduceIte, Int.reduceNe, Nat.reduceEqDiff, reduceCtorEq, Nat.reduceLeDiff, Nat.reduceAdd, Nat.reduceLT]
  refine callS.eq (w92 _ _ _) ?_
  ((try simp (maxSteps := 2000000) only [↓ S2, S2, vIte, ↓reduceIte, Int.reduceNe, Nat.reduceEqDiff, reduceCtorEq, Nat.reduceLeDiff, Nat.reduceAdd, Nat.reduceLT]); (repeat (simp only [brGen]; try simp (maxSteps := 2000000) only [↓ S2, S2, vIte, ↓reduceIte, Int.reduceNe, Nat.reduceEqDiff, reduceCtorEq, Nat.reduceLeDiff, Nat.reduceAdd, Nat.reduceLT])); (try simp +contextual (disch := omega) only [Z2]); (repeat' (first | (with_reducible intro h) | (with_reducible refine And.intro (by omega) ?_) | (with_reducible refine exP (by omega) ?_) | (with_reducible apply And.intro))))
  · refine callS.eq (w166 _ _) ?_
    ((try simp (maxSteps := 2000000) only [↓ S2, S2, vIte, ↓reduceIte, Int.reduceNe, Nat.reduceEqDiff, reduceCtorEq, Nat.reduceLeDiff, Nat.reduceAdd, Nat.reduceLT]); (repeat (simp only [brGen]; try simp (maxSteps := 2000000) only [↓ S2, S2, vIte, ↓reduceIte, Int.reduceNe, Nat.reduceEqDiff, reduceCtorEq, Nat.reduceLeDiff, Nat.reduceAdd, Nat.reduceLT])); (try simp +contextual (disch := omega) only [Z2]); (repeat' (first | (with_reducible intro h) | (with_reducible refine And.intro (by omega) ?_) | (with_reducible refine exP (by omega) ?_) | (with_reducible apply And.intro)))) <;> simp_all [okV]
  · simp_all [okV] <;> (intros; omega)
end Go.Proofs.Ytajhihnbnonadaa

namespace Go.Proofs.Ytajhihnbnonadaa
open Go.Gh
set_option maxRecDepth 20000
set_option linter.unusedSimpArgs false
set_option linter.unusedVariables false
set_option maxHeartbeats 2000000 in
theorem w121 (g : Gram) (t : List Nod) (hg : smGr g) (hl : t.length ≤ 1048576) (hk : ∀ x ∈ t, x.kids.length ≤ 1048576) : ∀ (f i : Nat) (p q : Int) (s : ByteArray), t.length ≤ i + f → Pure Try.prog 121 [Gr g, Tr t, I i, I p, I q, T s] (· = I (walkE g t f i p q s)) := by
  intro f
  induction f with
  | zero =>
    intro i p q s hf
    refine gstart mxd i121 rfl (by simp) ?_; simp (maxSteps := 2000000) only [↓ S2, S2, vIte, ↓reduceIte, Int.reduceNe, Nat.reduceEqDiff, reduceCtorEq, Nat.reduceLeDiff, Nat.reduceAdd, Nat.reduceLT]
    ((try simp (maxSteps := 2000000) only [↓ S2, S2, vIte, ↓reduceIte, Int.reduceNe, Nat.reduceEqDiff, reduceCtorEq, Nat.reduceLeDiff, Nat.reduceAdd, Nat.reduceLT]); (repeat (simp only [brGen]; try simp (maxSteps := 2000000) only [↓ S2, S2, vIte, ↓reduceIte, Int.reduceNe, Nat.reduceEqDiff, reduceCtorEq, Nat.reduceLeDiff, Nat.reduceAdd, Nat.reduceLT])); (try simp +contextual (disch := omega) only [Z2]); (repeat' (first | (with_reducible intro h) | (with_reducible refine And.intro (by omega) ?_) | (with_reducible refine exP (by omega) ?_) | (with_reducible apply And.intro))))
    all_goals first | rfl | (exfalso; omega)
  | succ f ih =>
    intro i p q s hf
    refine gstart mxd i121 rfl (by simp) ?_; simp (maxSteps := 2000000) only [↓ S2, S2, vIte, ↓reduceIte, Int.reduceNe, Nat.reduceEqDiff, reduceCtorEq, Nat.reduceLeDiff, Nat.reduceAdd, Nat.reduceLT]
    by_cases hi : i < t.length
    rotate_left
    · rw [walkE_out (by omega)]
      ((try simp (maxSteps := 2000000) only [↓ S2, S2, vIte, ↓reduceIte, Int.reduceNe, Nat.reduceEqDiff, reduceCtorEq, Nat.reduceLeDiff, Nat.reduceAdd, Nat.reduceLT]); (repeat (simp only [brGen]; try simp (maxSteps := 2000000) only [↓ S2, S2, vIte, ↓reduceIte, Int.reduceNe, Nat.reduceEqDiff, reduceCtorEq, Nat.reduceLeDiff, Nat.reduceAdd, Nat.reduceLT])); (try simp +contextual (disch := omega) only [Z2]); (repeat' (first | (with_reducible intro h) | (with_reducible refine And.intro (by omega) ?_) | (with_reducible refine exP (by omega) ?_) | (with_reducible apply And.intro))))
      all_goals first | rfl | (exfalso; omega)
    have hw : walkE g t (f + 1) i p q s = if fitV g t[i] p q s then kidsW (walkE g t f) i t[i].kids (fRul g.rules t[i].rule).right 0 (i + 1) else -1 := by simp only [walkE, if_pos hi, getD_lt hi]
    have hkk := hk _ (List.getElem_mem hi)
    have hr := smRu_f hg t[i].rule
    have hrr := hr.1
    rw [hw]
    by_cases hv : fitV g t[i] p q s = true
    · rw [if_pos hv]
      obtain ⟨h1, h2, h3, h4, h5, h6, h7⟩ := fitV_iff.1 hv
      subst h2 h3 h4
      clear hw hv
      have hR : ∃ R, fRul g.rules t[i].rule = R := ⟨_, rfl⟩
      obtain ⟨R, hR⟩ := hR
      rw [hR] at hr hrr h5 h7 ⊢
      have main : ∀ (Q : Exit → Env → GH → Prop), True := fun _ => trivial
      rcases h7 with h7 | h7
      · (repeat' (first | (with_reducible refine callS.eq (w97 _ _ hg) ?_) | (with_reducible refine callS.eq (w162 _ _) ?_) | simp (maxSteps := 2000000) only [↓ S2, S2, vIte, ↓reduceIte, Int.reduceNe, Nat.reduceEqDiff, reduceCtorEq, Nat.reduceLeDiff, Nat.reduceAdd, Nat.reduceLT, h1, h5, okV1, eq_true h6, h7, hR] | simp only [brGen] | simp +contextual (disch := omega) only [Z2] | (with_reducible intro h) | (with_reducible refine And.intro (by omega) ?_) | (with_reducible refine exP (by omega) ?_) | (with_reducible apply And.intro)))
        all_goals try (exfalso; omega)
        have hVV : ∃ V, kidsW (walkE g t f) i t[i].kids R.right 0 (i + 1) = V := ⟨_, rfl⟩
        obtain ⟨V, hVV⟩ := hVV
        rw [hVV]
        refine wloop mxd (ι := { x : Nat × Int // x.1 ≤ R.right.length ∧ (i : Int) < x.2 ∧ x.2 ≤ t.length ∧ kidsW (walkE g t f) i (t[i].kids.drop x.1) (R.right.drop x.1) x.1 x.2 = V }) (fun x => [(2, I i), (6, .rop 2 (Gr g)), (7, .rop 1 (Tr t)), (13, .rop 6 (Nd t[i])), (14, .rop 6 (Ru R)), (16, I x.1.2), (17, I x.1.1)]) (fun _ => []) (fun x => R.right.length - x.1.1) ⟨(0, i + 1), by simp, by simp; omega, by simp; omega, by simpa using hVV⟩ (by simp [E2, h7]) rfl ?_
        rintro ⟨⟨k, a⟩, hk1, ha1, ha2, hV⟩
        dsimp only at hk1 ha1 ha2 hV ⊢
        rcases Nat.lt_or_ge k R.right.length with hlt | hge
        · rw [kidsW_step (by omega) hlt] at hV
          by_cases hc : t[i].kids[k] = a
          · rw [if_neg (by simpa using hc)] at hV
            obtain ⟨m, rfl⟩ : ∃ m : Nat, a = m := ⟨a.toNat, by omega⟩
            have hm := walkE_ge (g := g) (t := t) f m i ((k : Int) + 1) R.right[k]
            simp only [Int.toNat_natCast] at hV
            (repeat' (first | (with_reducible refine callS.eq (ih m _ _ _ (by omega)) ?_) | simp (maxSteps := 2000000) only [↓ S2, S2, vIte, ↓reduceIte, Int.reduceNe, Nat.reduceEqDiff, reduceCtorEq, Nat.reduceLeDiff, Nat.reduceAdd, Nat.reduceLT, h5, hc] | simp only [brGen] | simp +contextual (disch := omega) only [Z2] | (with_reducible intro h) | (with_reducible refine And.intro (by omega) ?_) | (with_reducible refine exP (by omega) ?_) | (with_reducible apply And.intro)))
            all_goals try (exfalso; omega)
            · rw [if_pos (by assumption)] at hV; rw [← hV]
            · rw [if_neg (by assumption)] at hV
              exact nx ⟨(k + 1, walkE g t f m i ((k : Int) + 1) R.right[k]), by omega, by dsimp only; omega, by dsimp only; omega, hV⟩ (by simp; omega) (by simp [E2]) rfl
          · rw [if_pos (by simpa using hc)] at hV
            (repeat' (first | (with_reducible refine callS.eq (ih _ _ _ _ (by omega)) ?_) | simp (maxSteps := 2000000) only [↓ S2, S2, vIte, ↓reduceIte, Int.reduceNe, Nat.reduceEqDiff, reduceCtorEq, Nat.reduceLeDiff, Nat.reduceAdd, Nat.reduceLT, h5, hc] | simp only [brGen] | simp +contextual (disch := omega) only [Z2] | (with_reducible intro h) | (with_reducible refine And.intro (by omega) ?_) | (with_reducible refine exP (by omega) ?_) | (with_reducible apply And.intro)))
            all_goals first | (rw [← hV]; done) | (exfalso; omega)
        · rw [kidsW_end (by omega)] at hV
          ((try simp (maxSteps := 2000000) only [↓ S2, S2, vIte, ↓reduceIte, Int.reduceNe, Nat.reduceEqDiff, reduceCtorEq, Nat.reduceLeDiff, Nat.reduceAdd, Nat.reduceLT]); (repeat (simp only [brGen]; try simp (maxSteps := 2000000) only [↓ S2, S2, vIte, ↓reduceIte, Int.reduceNe, Nat.reduceEqDiff, reduceCtorEq, Nat.reduceLeDiff, Nat.reduceAdd, Nat.reduceLT])); (try simp +contextual (disch := omega) only [Z2]); (repeat' (first | (with_reducible intro h) | (with_reducible refine And.intro (by omega) ?_) | (with_reducible refine exP (by omega) ?_) | (with_reducible apply And.intro))))
          all_goals first | (rw [← hV]; done) | (exfalso; omega)
      · (repeat' (first | (with_reducible refine callS.eq (w97 _ _ hg) ?_) | (with_reducible refine callS.eq (w162 _ _) ?_) | simp (maxSteps := 2000000) only [↓ S2, S2, vIte, ↓reduceIte, Int.reduceNe, Nat.reduceEqDiff, reduceCtorEq, Nat.reduceLeDiff, Nat.reduceAdd, Nat.reduceLT, h1, h5, okV1, eq_true h6, h7.1, eq_true h7.2, hR] | simp only [brGen] | simp +contextual (disch := omega) only [Z2] | (with_reducible intro h) | (with_reducible refine And.intro (by omega) ?_) | (with_reducible refine exP (by omega) ?_) | (with_reducible apply And.intro)))
        all_goals try (exfalso; omega)
        have hVV : ∃ V, kidsW (walkE g t f) i t[i].kids R.right 0 (i + 1) = V := ⟨_, rfl⟩
        obtain ⟨V, hVV⟩ := hVV
        rw [hVV]
        refine wloop mxd (ι := { x : Nat × Int // x.1 ≤ R.right.length ∧ (i : Int) < x.2 ∧ x.2 ≤ t.length ∧ kidsW (walkE g t f) i (t[i].kids.drop x.1) (R.right.drop x.1) x.1 x.2 = V }) (fun x => [(2, I i), (6, .rop 2 (Gr g)), (7, .rop 1 (Tr t)), (13, .rop 6 (Nd t[i])), (14, .rop 6 (Ru R)), (16, I x.1.2), (17, I x.1.1)]) (fun _ => []) (fun x => R.right.length - x.1.1) ⟨(0, i + 1), by simp, by simp; omega, by simp; omega, by simpa using hVV⟩ (by simp [E2, h7]) rfl ?_
        rintro ⟨⟨k, a⟩, hk1, ha1, ha2, hV⟩
        dsimp only at hk1 ha1 ha2 hV ⊢
        rcases Nat.lt_or_ge k R.right.length with hlt | hge
        · rw [kidsW_step (by omega) hlt] at hV
          by_cases hc : t[i].kids[k] = a
          · rw [if_neg (by simpa using hc)] at hV
            obtain ⟨m, rfl⟩ : ∃ m : Nat, a = m := ⟨a.toNat, by omega⟩
            have hm := walkE_ge (g := g) (t := t) f m i ((k : Int) + 1) R.right[k]
            simp only [Int.toNat_natCast] at hV
            (repeat' (first | (with_reducible refine callS.eq (ih m _ _ _ (by omega)) ?_) | simp (maxSteps := 2000000) only [↓ S2, S2, vIte, ↓reduceIte, Int.reduceNe, Nat.reduceEqDiff, reduceCtorEq, Nat.reduceLeDiff, Nat.reduceAdd, Nat.reduceLT, h5, hc] | simp only [brGen] | simp +contextual (disch := omega) only [Z2] | (with_reducible intro h) | (with_reducible refine And.intro (by omega) ?_) | (with_reducible refine exP (by omega) ?_) | (with_reducible apply And.intro)))
            all_goals try (exfalso; omega)
            · rw [if_pos (by assumption)] at hV; rw [← hV]
            · rw [if_neg (by assumption)] at hV
              exact nx ⟨(k + 1, walkE g t f m i ((k : Int) + 1) R.right[k]), by omega, by dsimp only; omega, by dsimp only; omega, hV⟩ (by simp; omega) (by simp [E2]) rfl
          · rw [if_pos (by simpa using hc)] at hV
            (repeat' (first | (with_reducible refine callS.eq (ih _ _ _ _ (by omega)) ?_) | simp (maxSteps := 2000000) only [↓ S2, S2, vIte, ↓reduceIte, Int.reduceNe, Nat.reduceEqDiff, reduceCtorEq, Nat.reduceLeDiff, Nat.reduceAdd, Nat.reduceLT, h5, hc] | simp only [brGen] | simp +contextual (disch := omega) only [Z2] | (with_reducible intro h) | (with_reducible refine And.intro (by omega) ?_) | (with_reducible refine exP (by omega) ?_) | (with_reducible apply And.intro)))
            all_goals first | (rw [← hV]; done) | (exfalso; omega)
        · rw [kidsW_end (by omega)] at hV
          ((try simp (maxSteps := 2000000) only [↓ S2, S2, vIte, ↓reduceIte, Int.reduceNe, Nat.reduceEqDiff, reduceCtorEq, Nat.reduceLeDiff, Nat.reduceAdd, Nat.reduceLT]); (repeat (simp only [brGen]; try simp (maxSteps := 2000000) only [↓ S2, S2, vIte, ↓reduceIte, Int.reduceNe, Nat.reduceEqDiff, reduceCtorEq, Nat.reduceLeDiff, Nat.reduceAdd, Nat.reduceLT])); (try simp +contextual (disch := omega) only [Z2]); (repeat' (first | (with_reducible intro h) | (with_reducible refine And.intro (by omega) ?_) | (with_reducible refine exP (by omega) ?_) | (with_reducible apply And.intro))))
          all_goals first | (rw [← hV]; done) | (exfalso; omega)
    · rw [if_neg hv]
      rw [fitV_iff] at hv
      (repeat' (first | (with_reducible refine callS.eq (w97 _ _ hg) ?_) | (with_reducible refine callS.eq (w162 _ _) ?_) | simp (maxSteps := 2000000) only [↓ S2, S2, vIte, ↓reduceIte, Int.reduceNe, Nat.reduceEqDiff, reduceCtorEq, Nat.reduceLeDiff, Nat.reduceAdd, Nat.reduceLT] | simp only [brGen] | simp +contextual (disch := omega) only [Z2] | (with_reducible intro h) | (with_reducible refine And.intro (by omega) ?_) | (with_reducible refine exP (by omega) ?_) | (with_reducible apply And.intro)))
      all_goals try rfl
      all_goals (exfalso; apply hv; simp_all only [okV1, decide_eq_true_eq, decide_eq_false_iff_not, true_and, and_true, or_true, true_or, not_true_eq_false, not_false_eq_true]; done)
set_option maxHeartbeats 2000000 in
theorem w124 (g : Gram) (t : List Nod) (hg : smGr g) (hl : t.length ≤ 1048576) (hk : ∀ x ∈ t, x.kids.length ≤ 1048576) : ∀ (f i : Nat) (p q : Int) (s : ByteArray), t.length ≤ i + f → Pure Try.prog 124 [Gr g, Tr t, I i, I p, I q, T s] (· = I (walkE g t f i p q s)) := by
  intro f
  induction f with
  | zero =>
    intro i p q s hf
    refine gstart mxd i124 rfl (by simp) ?_; simp (maxSteps := 2000000) only [↓ S2, S2, vIte, ↓reduceIte, Int.reduceNe, Nat.reduceEqDiff, reduceCtorEq, Nat.reduceLeDiff, Nat.reduceAdd, Nat.reduceLT]
    ((try simp (maxSteps := 2000000) only [↓ S2, S2, vIte, ↓reduceIte, Int.reduceNe, Nat.reduceEqDiff, reduceCtorEq, Nat.reduceLeDiff, Nat.reduceAdd, Nat.reduceLT]); (repeat (simp only [brGen]; try simp (maxSteps := 2000000) only [↓ S2, S2, vIte, ↓reduceIte, Int.reduceNe, Nat.reduceEqDiff, reduceCtorEq, Nat.reduceLeDiff, Nat.reduceAdd, Nat.reduceLT])); (try simp +contextual (disch := omega) only [Z2]); (repeat' (first | (with_reducible intro h) | (with_reducible refine And.intro (by omega) ?_) | (with_reducible refine exP (by omega) ?_) | (with_reducible apply And.intro))))
    all_goals first | rfl | (exfalso; omega)
  | succ f ih =>
    intro i p q s hf
    refine gstart mxd i124 rfl (by simp) ?_; simp (maxSteps := 2000000) only [↓ S2, S2, vIte, ↓reduceIte, Int.reduceNe, Nat.reduceEqDiff, reduceCtorEq, Nat.reduceLeDiff, Nat.reduceAdd, Nat.reduceLT]
    by_cases hi : i < t.length
    rotate_left
    · rw [walkE_out (by omega)]
      ((try simp (maxSteps := 2000000) only [↓ S2, S2, vIte, ↓reduceIte, Int.reduceNe, Nat.reduceEqDiff, reduceCtorEq, Nat.reduceLeDiff, Nat.reduceAdd, Nat.reduceLT]); (repeat (simp only [brGen]; try simp (maxSteps := 2000000) only [↓ S2, S2, vIte, ↓reduceIte, Int.reduceNe, Nat.reduceEqDiff, reduceCtorEq, Nat.reduceLeDiff, Nat.reduceAdd, Nat.reduceLT])); (try simp +contextual (disch := omega) only [Z2]); (repeat' (first | (with_reducible intro h) | (with_reducible refine And.intro (by omega) ?_) | (with_reducible refine exP (by omega) ?_) | (with_reducible apply And.intro))))
      all_goals first | rfl | (exfalso; omega)
    have hw : walkE g t (f + 1) i p q s = if fitV g t[i] p q s then kidsW (walkE g t f) i t[i].kids (fRul g.rules t[i].rule).right 0 (i + 1) else -1 := by simp only [walkE, if_pos hi, getD_lt hi]
    have hkk := hk _ (List.getElem_mem hi)
    have hr := smRu_f hg t[i].rule
    have hrr := hr.1
    rw [hw]
    by_cases hv : fitV g t[i] p q s = true
    · rw [if_pos hv]
      obtain ⟨h1, h2, h3, h4, h5, h6, h7⟩ := fitV_iff.1 hv
      subst h2 h3 h4
      clear hw hv
      have hR : ∃ R, fRul g.rules t[i].rule = R := ⟨_, rfl⟩
      obtain ⟨R, hR⟩ := hR
      rw [hR] at hr hrr h5 h7 ⊢
      have main : ∀ (Q : Exit → Env → GH → Prop), True := fun _ => trivial
      rcases h7 with h7 | h7
      · (repeat' (first | (with_reducible refine callS.eq (w98 _ _ hg) ?_) | (with_reducible refine callS.eq (w72 _ _ _) ?_) | simp (maxSteps := 2000000) only [↓ S2, S2, vIte, ↓reduceIte, Int.reduceNe, Nat.reduceEqDiff, reduceCtorEq, Nat.reduceLeDiff, Nat.reduceAdd, Nat.reduceLT, h1, h5, eq_true h6, h7, hR] | simp only [brGen] | simp +contextual (disch := omega) only [Z2] | (with_reducible intro h) | (with_reducible refine And.intro (by omega) ?_) | (with_reducible refine exP (by omega) ?_) | (with_reducible apply And.intro)))
        all_goals try (exfalso; omega)
        have hVV : ∃ V, kidsW (walkE g t f) i t[i].kids R.right 0 (i + 1) = V := ⟨_, rfl⟩
        obtain ⟨V, hVV⟩ := hVV
        rw [hVV]
        refine wloop mxd (ι := { x : Nat × Int // x.1 ≤ R.right.length ∧ (i : Int) < x.2 ∧ x.2 ≤ t.length ∧ kidsW (walkE g t f) i (t[i].kids.drop x.1) (R.right.drop x.1) x.1 x.2 = V }) (fun x => [(2, I i), (6, .rop 2 (Gr g)), (7, .rop 1 (Tr t)), (14, .rop 6 (Ru R)), (16, I x.1.2), (84, IS t[i].kids), (85, I R.right.length), (86, I x.1.1)]) (fun _ => []) (fun x => R.right.length - x.1.1) ⟨(0, i + 1), by simp, by simp; omega, by simp; omega, by simpa using hVV⟩ (by simp [E2, h7]) rfl ?_
        rintro ⟨⟨k, a⟩, hk1, ha1, ha2, hV⟩
        dsimp only at hk1 ha1 ha2 hV ⊢
        rcases Nat.lt_or_ge k R.right.length with hlt | hge
        · rw [kidsW_step (by omega) hlt] at hV
          by_cases hc : t[i].kids[k] = a
          · rw [if_neg (by simpa using hc)] at hV
            obtain ⟨m, rfl⟩ : ∃ m : Nat, a = m := ⟨a.toNat, by omega⟩
            have hm := walkE_ge (g := g) (t := t) f m i ((k : Int) + 1) R.right[k]
            simp only [Int.toNat_natCast] at hV
            (repeat' (first | (with_reducible refine callS.eq (ih m _ _ _ (by omega)) ?_) | simp (maxSteps := 2000000) only [↓ S2, S2, vIte, ↓reduceIte, Int.reduceNe, Nat.reduceEqDiff, reduceCtorEq, Nat.reduceLeDiff, Nat.reduceAdd, Nat.reduceLT, h5, hc] | simp only [brGen] | simp +contextual (disch := omega) only [Z2] | (with_reducible intro h) | (with_reducible refine And.intro (by omega) ?_) | (with_reducible refine exP (by omega) ?_) | (with_reducible apply And.intro)))
            all_goals try (exfalso; omega)
            · rw [if_pos (by assumption)] at hV; rw [← hV]
            · rw [if_neg (by assumption)] at hV
              exact nx ⟨(k + 1, walkE g t f m i ((k : Int) + 1) R.right[k]), by omega, by dsimp only; omega, by dsimp only; omega, hV⟩ (by simp; omega) (by simp [E2]) rfl
          · rw [if_pos (by simpa using hc)] at hV
            (repeat' (first | (with_reducible refine callS.eq (ih _ _ _ _ (by omega)) ?_) | simp (maxSteps := 2000000) only [↓ S2, S2, vIte, ↓reduceIte, Int.reduceNe, Nat.reduceEqDiff, reduceCtorEq, Nat.reduceLeDiff, Nat.reduceAdd, Nat.reduceLT, h5, hc] | simp only [brGen] | simp +contextual (disch := omega) only [Z2] | (with_reducible intro h) | (with_reducible refine And.intro (by omega) ?_) | (with_reducible refine exP (by omega) ?_) | (with_reducible apply And.intro)))
            all_goals first | (rw [← hV]; done) | (exfalso; omega)
        · rw [kidsW_end (by omega)] at hV
          ((try simp (maxSteps := 2000000) only [↓ S2, S2, vIte, ↓reduceIte, Int.reduceNe, Nat.reduceEqDiff, reduceCtorEq, Nat.reduceLeDiff, Nat.reduceAdd, Nat.reduceLT]); (repeat (simp only [brGen]; try simp (maxSteps := 2000000) only [↓ S2, S2, vIte, ↓reduceIte, Int.reduceNe, Nat.reduceEqDiff, reduceCtorEq, Nat.reduceLeDiff, Nat.reduceAdd, Nat.reduceLT])); (try simp +contextual (disch := omega) only [Z2]); (repeat' (first | (with_reducible intro h) | (with_reducible refine And.intro (by omega) ?_) | (with_reducible refine exP (by omega) ?_) | (with_reducible apply And.intro))))
          all_goals first | (rw [← hV]; done) | (exfalso; omega)
      · (repeat' (first | (with_reducible refine callS.eq (w98 _ _ hg) ?_) | (with_reducible refine callS.eq (w72 _ _ _) ?_) | simp (maxSteps := 2000000) only [↓ S2, S2, vIte, ↓reduceIte, Int.reduceNe, Nat.reduceEqDiff, reduceCtorEq, Nat.reduceLeDiff, Nat.reduceAdd, Nat.reduceLT, h1, h5, eq_true h6, h7.1, eq_true h7.2, hR] | simp only [brGen] | simp +contextual (disch := omega) only [Z2] | (with_reducible intro h) | (with_reducible refine And.intro (by omega) ?_) | (with_reducible refine exP (by omega) ?_) | (with_reducible apply And.intro)))
        all_goals try (exfalso; omega)
        have hVV : ∃ V, kidsW (walkE g t f) i t[i].kids R.right 0 (i + 1) = V := ⟨_, rfl⟩
        obtain ⟨V, hVV⟩ := hVV
        rw [hVV]
        refine wloop mxd (ι := { x : Nat × Int // x.1 ≤ R.right.length ∧ (i : Int) < x.2 ∧ x.2 ≤ t.length ∧ kidsW (walkE g t f) i (t[i].kids.drop x.1) (R.right.drop x.1) x.1 x.2 = V }) (fun x => [(2, I i), (6, .rop 2 (Gr g)), (7, .rop 1 (Tr t)), (14, .rop 6 (Ru R)), (16, I x.1.2), (84, IS t[i].kids), (85, I R.right.length), (86, I x.1.1)]) (fun _ => []) (fun x => R.right.length - x.1.1) ⟨(0, i + 1), by simp, by simp; omega, by simp; omega, by simpa using hVV⟩ (by simp [E2, h7]) rfl ?_
        rintro ⟨⟨k, a⟩, hk1, ha1, ha2, hV⟩
        dsimp only at hk1 ha1 ha2 hV ⊢
        rcases Nat.lt_or_ge k R.right.length with hlt | hge
        · rw [kidsW_step (by omega) hlt] at hV
          by_cases hc : t[i].kids[k] = a
          · rw [if_neg (by simpa using hc)] at hV
            obtain ⟨m, rfl⟩ : ∃ m : Nat, a = m := ⟨a.toNat, by omega⟩
            have hm := walkE_ge (g := g) (t := t) f m i ((k : Int) + 1) R.right[k]
            simp only [Int.toNat_natCast] at hV
            (repeat' (first | (with_reducible refine callS.eq (ih m _ _ _ (by omega)) ?_) | simp (maxSteps := 2000000) only [↓ S2, S2, vIte, ↓reduceIte, Int.reduceNe, Nat.reduceEqDiff, reduceCtorEq, Nat.reduceLeDiff, Nat.reduceAdd, Nat.reduceLT, h5, hc] | simp only [brGen] | simp +contextual (disch := omega) only [Z2] | (with_reducible intro h) | (with_reducible refine And.intro (by omega) ?_) | (with_reducible refine exP (by omega) ?_) | (with_reducible apply And.intro)))
            all_goals try (exfalso; omega)
            · rw [if_pos (by assumption)] at hV; rw [← hV]
            · rw [if_neg (by assumption)] at hV
              exact nx ⟨(k + 1, walkE g t f m i ((k : Int) + 1) R.right[k]), by omega, by dsimp only; omega, by dsimp only; omega, hV⟩ (by simp; omega) (by simp [E2]) rfl
          · rw [if_pos (by simpa using hc)] at hV
            (repeat' (first | (with_reducible refine callS.eq (ih _ _ _ _ (by omega)) ?_) | simp (maxSteps := 2000000) only [↓ S2, S2, vIte, ↓reduceIte, Int.reduceNe, Nat.reduceEqDiff, reduceCtorEq, Nat.reduceLeDiff, Nat.reduceAdd, Nat.reduceLT, h5, hc] | simp only [brGen] | simp +contextual (disch := omega) only [Z2] | (with_reducible intro h) | (with_reducible refine And.intro (by omega) ?_) | (with_reducible refine exP (by omega) ?_) | (with_reducible apply And.intro)))
            all_goals first | (rw [← hV]; done) | (exfalso; omega)
        · rw [kidsW_end (by omega)] at hV
          ((try simp (maxSteps := 2000000) only [↓ S2, S2, vIte, ↓reduceIte, Int.reduceNe, Nat.reduceEqDiff, reduceCtorEq, Nat.reduceLeDiff, Nat.reduceAdd, Nat.reduceLT]); (repeat (simp only [brGen]; try simp (maxSteps := 2000000) only [↓ S2, S2, vIte, ↓reduceIte, Int.reduceNe, Nat.reduceEqDiff, reduceCtorEq, Nat.reduceLeDiff, Nat.reduceAdd, Nat.reduceLT])); (try simp +contextual (disch := omega) only [Z2]); (repeat' (first | (with_reducible intro h) | (with_reducible refine And.intro (by omega) ?_) | (with_reducible refine exP (by omega) ?_) | (with_reducible apply And.intro))))
          all_goals first | (rw [← hV]; done) | (exfalso; omega)
    · rw [if_neg hv]
      rw [fitV_iff] at hv
      (repeat' (first | (with_reducible refine callS.eq (w98 _ _ hg) ?_) | (with_reducible refine callS.eq (w72 _ _ _) ?_) | simp (maxSteps := 2000000) only [↓ S2, S2, vIte, ↓reduceIte, Int.reduceNe, Nat.reduceEqDiff, reduceCtorEq, Nat.reduceLeDiff, Nat.reduceAdd, Nat.reduceLT] | simp only [brGen] | simp +contextual (disch := omega) only [Z2] | (with_reducible intro h) | (with_reducible refine And.intro (by omega) ?_) | (with_reducible refine exP (by omega) ?_) | (with_reducible apply And.intro)))
      all_goals try rfl
      all_goals (exfalso; apply hv; simp_all only [okV1, decide_eq_true_eq, decide_eq_false_iff_not, true_and, and_true, or_true, true_or, not_true_eq_false, not_false_eq_true]; done)
end Go.Proofs.Ytajhihnbnonadaa

namespace Go.Proofs.Ytajhihnbnonadaa
open Go.Gh
set_option maxRecDepth 20000
set_option linter.unusedSimpArgs false
set_option linter.unusedVariables false
theorem w161 (l : List Int) (x : Int) : Pure Try.prog 161 [IS l, I x] (· = B (hasI l x)) := by
  refine GCalls.lenA fun hl => ?_
  have hlen := hl.1.1
  simp only [List.length_map, maxL] at hlen
  refine gstart mxd i161 rfl (by simp) ?_; simp (maxSteps := 2000000) only [↓ S2, S2, vIte, ↓reduceIte, Int.reduceNe, Nat.reduceEqDiff, reduceCtorEq, Nat.reduceLeDiff, Nat.reduceAdd, Nat.reduceLT]
  refine wloop mxd (ι := { i : Nat // i ≤ l.length ∧ ∀ y ∈ l.take i, decide (y = x) = false }) (fun i => [(0, IS l), (1, I x), (5, I i.1)]) (fun _ => []) (fun i => l.length - i.1) ⟨0, by simp⟩ (by simp [E2]) rfl ?_
  rintro ⟨i, hi, hn⟩
  ((try simp (maxSteps := 2000000) only [↓ S2, S2, vIte, ↓reduceIte, Int.reduceNe, Nat.reduceEqDiff, reduceCtorEq, Nat.reduceLeDiff, Nat.reduceAdd, Nat.reduceLT]); (repeat (simp only [brGen]; try simp (maxSteps := 2000000) only [↓ S2, S2, vIte, ↓reduceIte, Int.reduceNe, Nat.reduceEqDiff, reduceCtorEq, Nat.reduceLeDiff, Nat.reduceAdd, Nat.reduceLT])); (try simp +contextual (disch := omega) only [Z2]); (repeat' (first | (with_reducible intro h) | (with_reducible refine And.intro (by omega) ?_) | (with_reducible refine exP (by omega) ?_) | (with_reducible apply And.intro))))
  · rw [hasI_hit (by assumption) h]
  · exact nx ⟨i + 1, by omega, take_step (by assumption) (by simpa using h) hn⟩ (by simp; omega) (by simp [E2]) rfl
  · have : i = l.length := by omega
    subst this
    rw [List.take_of_length_le (Nat.le_refl _)] at hn
    rw [hasI_none hn]
theorem w120 (t : List Nod) (hl : t.length ≤ 1048576) : Pure Try.prog 120 [Tr t] (· = B (idsV t && decide (1 ≤ t.length ∧ t.length ≤ 16))) := by
  refine Pure.bor ?_
  refine gstart mxd i120 rfl (by simp) ?_; simp (maxSteps := 2000000) only [↓ S2, S2, vIte, ↓reduceIte, Int.reduceNe, Nat.reduceEqDiff, reduceCtorEq, Nat.reduceLeDiff, Nat.reduceAdd, Nat.reduceLT]
  ((try simp (maxSteps := 2000000) only [↓ S2, S2, vIte, ↓reduceIte, Int.reduceNe, Nat.reduceEqDiff, reduceCtorEq, Nat.reduceLeDiff, Nat.reduceAdd, Nat.reduceLT]); (repeat (simp only [brGen]; try simp (maxSteps := 2000000) only [↓ S2, S2, vIte, ↓reduceIte, Int.reduceNe, Nat.reduceEqDiff, reduceCtorEq, Nat.reduceLeDiff, Nat.reduceAdd, Nat.reduceLT])); (try simp +contextual (disch := omega) only [Z2]); (repeat' (first | (with_reducible intro h) | (with_reducible refine And.intro (by omega) ?_) | (with_reducible refine exP (by omega) ?_) | (with_reducible apply And.intro))))
  rename_i r
  refine ploop mxd (ι := { x : Nat × Nat // x.2 ≤ t.length ∧ ∀ j, j < x.2 → gid t j = true }) (fun x => [(1, .rop 1 (Tr t)), (3, .own x.1.1 1 0 x.1.2), (4, I x.1.2)]) (fun x => [(x.1.1, 1, ((t.take x.1.2).map (·.id)).map I)]) (fun x => t.length - x.1.2) ⟨(r, 0), by simp⟩ (by simp [E2]) (by simp [subH, hget, names]) ?_
  rintro ⟨⟨r, i⟩, hi, hn⟩ -
  dsimp only at hi hn ⊢
  rcases Nat.lt_or_ge i t.length with hlt | hge
  · (repeat' (first | (with_reducible refine callS.eq (w92 _ _ _) ?_) | simp (maxSteps := 2000000) only [↓ S2, S2, vIte, ↓reduceIte, Int.reduceNe, Nat.reduceEqDiff, reduceCtorEq, Nat.reduceLeDiff, Nat.reduceAdd, Nat.reduceLT] | simp only [brGen] | simp +contextual (disch := omega) only [Z2] | (with_reducible intro h) | (with_reducible refine And.intro (by omega) ?_) | (with_reducible refine exP (by omega) ?_) | (with_reducible apply And.intro)))
    all_goals try (exfalso; omega)
    · refine callS.borA (w161 ((t.take i).map (·.id)) t[i].id) (.cons (bor_IS hget_new (by simp; omega)) (.cons .refl .nil)) rfl ?_
      ((try simp (maxSteps := 2000000) only [↓ S2, S2, vIte, ↓reduceIte, Int.reduceNe, Nat.reduceEqDiff, reduceCtorEq, Nat.reduceLeDiff, Nat.reduceAdd, Nat.reduceLT]); (repeat (simp only [brGen]; try simp (maxSteps := 2000000) only [↓ S2, S2, vIte, ↓reduceIte, Int.reduceNe, Nat.reduceEqDiff, reduceCtorEq, Nat.reduceLeDiff, Nat.reduceAdd, Nat.reduceLT])); (try simp +contextual (disch := omega) only [Z2]); (repeat' (first | (with_reducible intro h) | (with_reducible refine And.intro (by omega) ?_) | (with_reducible refine exP (by omega) ?_) | (with_reducible apply And.intro))))
      · rw [hasI_map] at h
        rw [idsV_bad hlt (gid_f2 hlt h)]
        exact .refl
      · rename_i q2
        have h2 := neH_of h
        (replace h2 := h2; simp only [neH_cons, neH_nil, neA_cons, neA_nil, and_true, true_and] at h2)
        ((try simp (maxSteps := 2000000) only [↓ S2, S2, vIte, ↓reduceIte, Int.reduceNe, Nat.reduceEqDiff, reduceCtorEq, Nat.reduceLeDiff, Nat.reduceAdd, Nat.reduceLT, hget_c, hset_c, hdel_c, h2, t_ldf]); (repeat (simp only [brGen]; try simp (maxSteps := 2000000) only [↓ S2, S2, vIte, ↓reduceIte, Int.reduceNe, Nat.reduceEqDiff, reduceCtorEq, Nat.reduceLeDiff, Nat.reduceAdd, Nat.reduceLT, hget_c, hset_c, hdel_c, h2, t_ldf])); (try simp +contextual (disch := omega) only [Z2]); (repeat' (first | (with_reducible intro h) | (with_reducible refine And.intro (by omega) ?_) | (with_reducible refine exP (by omega) ?_) | (with_reducible apply And.intro))))
        · simp; omega
        rename_i hh _ _ _ q3
        have h3 := neH_of h
        (replace h3 := h3; simp only [neH_cons, neH_nil, neA_cons, neA_nil, and_true, true_and] at h3)
        rw [takeApp2 I (·.id) t i hlt]
        refine px ⟨(q3, i + 1), by omega, fun j hj => ?_⟩ (by simp; omega) (by simp [E2]) (by simp [subH, hget, names, h3])
        rcases Nat.lt_or_ge j i with hji | hji
        · exact hn j hji
        · have : j = i := by omega
          subst this
          exact gid_t hlt (by assumption) (by rw [← hasI_map]; assumption)
    · rw [idsV_bad hlt (gid_f1 hlt (by assumption))]
      exact .refl
  · have : i = t.length := by omega
    subst this
    (repeat' (first | (with_reducible refine callS.eq (w92 _ _ _) ?_) | simp (maxSteps := 2000000) only [↓ S2, S2, vIte, ↓reduceIte, Int.reduceNe, Nat.reduceEqDiff, reduceCtorEq, Nat.reduceLeDiff, Nat.reduceAdd, Nat.reduceLT] | simp only [brGen] | simp +contextual (disch := omega) only [Z2] | (with_reducible intro h) | (with_reducible refine And.intro (by omega) ?_) | (with_reducible refine exP (by omega) ?_) | (with_reducible apply And.intro)))
    have e : B (decide (1 ≤ (t.length : Int) ∧ (t.length : Int) ≤ 16)) = B (idsV t && decide (1 ≤ t.length ∧ t.length ≤ 16)) := by rw [idsV_ok hn, Bool.true_and]; exact bEq (by omega)
    rw [← e]
    exact .refl
theorem w123 (x y : Nod) : Pure Try.prog 123 [Nd x, .rop 6 (Nd y)] (· = B (decide (x.id = y.id))) := by
  refine gstart mxd i123 rfl (by simp) ?_; simp (maxSteps := 2000000) only [↓ S2, S2, vIte, ↓reduceIte, Int.reduceNe, Nat.reduceEqDiff, reduceCtorEq, Nat.reduceLeDiff, Nat.reduceAdd, Nat.reduceLT]
  try ((try simp (maxSteps := 2000000) only [↓ S2, S2, vIte, ↓reduceIte, Int.reduceNe, Nat.reduceEqDiff, reduceCtorEq, Nat.reduceLeDiff, Nat.reduceAdd, Nat.reduceLT]); (repeat (simp only [brGen]; try simp (maxSteps := 2000000) only [↓ S2, S2, vIte, ↓reduceIte, Int.reduceNe, Nat.reduceEqDiff, reduceCtorEq, Nat.reduceLeDiff, Nat.reduceAdd, Nat.reduceLT])); (try simp +contextual (disch := omega) only [Z2]); (repeat' (first | (with_reducible intro h) | (with_reducible refine And.intro (by omega) ?_) | (with_reducible refine exP (by omega) ?_) | (with_reducible apply And.intro))))
theorem w122 (t : List Nod) (f : Nat) (cs : List GV) (p : Nod → Bool) (hp : ∀ x ∈ t, Pure Try.prog f (Nd x :: cs) (· = B (p x))) :
    Pure Try.prog 122 [NdS t, .clo f cs] (· = B (t.any p)) := by
  refine gstart mxd i122 rfl (by simp) ?_; simp (maxSteps := 2000000) only [↓ S2, S2, vIte, ↓reduceIte, Int.reduceNe, Nat.reduceEqDiff, reduceCtorEq, Nat.reduceLeDiff, Nat.reduceAdd, Nat.reduceLT]
  refine callS.eq (w159 t f cs p hp) ?_
  ((try simp (maxSteps := 2000000) only [↓ S2, S2, vIte, ↓reduceIte, Int.reduceNe, Nat.reduceEqDiff, reduceCtorEq, Nat.reduceLeDiff, Nat.reduceAdd, Nat.reduceLT]); (repeat (simp only [brGen]; try simp (maxSteps := 2000000) only [↓ S2, S2, vIte, ↓reduceIte, Int.reduceNe, Nat.reduceEqDiff, reduceCtorEq, Nat.reduceLeDiff, Nat.reduceAdd, Nat.reduceLT])); (try simp +contextual (disch := omega) only [Z2]); (repeat' (first | (with_reducible intro h) | (with_reducible refine And.intro (by omega) ?_) | (with_reducible refine exP (by omega) ?_) | (with_reducible apply And.intro))))
  rw [← any_ix]
theorem w55 (g : Gram) (t : List Nod) (s : ByteArray) (hg : smGr g) (hl : t.length ≤ 1048576) (hk : ∀ x ∈ t, x.kids.length ≤ 1048576) : Pure Try.prog 55 [Gr g, Tr t, T s] (· = B (treeOf g t s)) := by
  refine gstart mxd i55 rfl (by simp) ?_; simp (maxSteps := 2000000) only [↓ S2, S2, vIte, ↓reduceIte, Int.reduceNe, Nat.reduceEqDiff, reduceCtorEq, Nat.reduceLeDiff, Nat.reduceAdd, Nat.reduceLT]
  refine callS.eq (w72 _ _ _) ?_
  ((try simp (maxSteps := 2000000) only [↓ S2, S2, vIte, ↓reduceIte, Int.reduceNe, Nat.reduceEqDiff, reduceCtorEq, Nat.reduceLeDiff, Nat.reduceAdd, Nat.reduceLT]); (repeat (simp only [brGen]; try simp (maxSteps := 2000000) only [↓ S2, S2, vIte, ↓reduceIte, Int.reduceNe, Nat.reduceEqDiff, reduceCtorEq, Nat.reduceLeDiff, Nat.reduceAdd, Nat.reduceLT])); (try simp +contextual (disch := omega) only [Z2]); (repeat' (first | (with_reducible intro h) | (with_reducible refine And.intro (by omega) ?_) | (with_reducible refine exP (by omega) ?_) | (with_reducible apply And.intro))))
  rotate_left
  · simp only [treeOf]; rw [decide_eq_false (by omega)]; rfl
  refine wloop mxd (ι := { i : Nat // i ≤ t.length ∧ ∀ j, j < i → gid t j = true }) (fun i => [(2, T s), (3, .rop 2 (Gr g)), (4, .rop 1 (Tr t)), (15, NdS t), (16, I t.length), (17, I i.1)]) (fun _ => []) (fun i => t.length - i.1) ⟨0, by simp⟩ (by simp [E2]) rfl ?_
  rintro ⟨i, hi, hn⟩
  rcases Nat.lt_or_ge i t.length with hlt | hge
  · (repeat' (first | (with_reducible refine callS.eq (w72 _ _ _) ?_) | simp (maxSteps := 2000000) only [↓ S2, S2, vIte, ↓reduceIte, Int.reduceNe, Nat.reduceEqDiff, reduceCtorEq, Nat.reduceLeDiff, Nat.reduceAdd, Nat.reduceLT] | simp only [brGen] | simp +contextual (disch := omega) only [Z2] | (with_reducible intro h) | (with_reducible refine And.intro (by omega) ?_) | (with_reducible refine exP (by omega) ?_) | (with_reducible apply And.intro)))
    all_goals try (exfalso; omega)
    · rw [show List.drop (Int.toNat 0) (List.take i (List.map Nd t)) = (t.take i).map Nd from by simp [List.map_take]]
      refine callS.eq (w122 (t.take i) _ _ (fun y => decide (y.id = t[i].id)) fun x _ => w123 x t[i]) ?_
      ((try simp (maxSteps := 2000000) only [↓ S2, S2, vIte, ↓reduceIte, Int.reduceNe, Nat.reduceEqDiff, reduceCtorEq, Nat.reduceLeDiff, Nat.reduceAdd, Nat.reduceLT]); (repeat (simp only [brGen]; try simp (maxSteps := 2000000) only [↓ S2, S2, vIte, ↓reduceIte, Int.reduceNe, Nat.reduceEqDiff, reduceCtorEq, Nat.reduceLeDiff, Nat.reduceAdd, Nat.reduceLT])); (try simp +contextual (disch := omega) only [Z2]); (repeat' (first | (with_reducible intro h) | (with_reducible refine And.intro (by omega) ?_) | (with_reducible refine exP (by omega) ?_) | (with_reducible apply And.intro))))
      · rw [treeOf_bad (idsV_bad hlt (gid_f2 hlt h))]
      · refine nx ⟨i + 1, by omega, fun j hj => ?_⟩ (by simp; omega) (by simp [E2]) rfl
        rcases Nat.lt_or_ge j i with hji | hji
        · exact hn j hji
        · have : j = i := by omega
          subst this
          exact gid_t hlt (by assumption) h
    · rw [treeOf_bad (idsV_bad hlt (gid_f1 hlt (by assumption)))]
  · have : i = t.length := by omega
    subst this
    have hw := w124 g t hg hl hk t.length 0 (-1) 0 s (by omega)
    simp only [Int.natCast_zero] at hw
    (repeat' (first | (with_reducible refine callS.eq (hw) ?_) | simp (maxSteps := 2000000) only [↓ S2, S2, vIte, ↓reduceIte, Int.reduceNe, Nat.reduceEqDiff, reduceCtorEq, Nat.reduceLeDiff, Nat.reduceAdd, Nat.reduceLT] | simp only [brGen] | simp +contextual (disch := omega) only [Z2] | (with_reducible intro h) | (with_reducible refine And.intro (by omega) ?_) | (with_reducible refine exP (by omega) ?_) | (with_reducible apply And.intro)))
    simp only [treeOf, idsV_ok hn, Bool.true_and]
    rw [decide_eq_true (show 1 ≤ t.length ∧ t.length ≤ 16 by omega), Bool.true_and]
theorem w54 (g : Gram) (t : List Nod) (s : ByteArray) (hg : smGr g) (hl : t.length ≤ 1048576) (hk : ∀ x ∈ t, x.kids.length ≤ 1048576) : Pure Try.prog 54 [Gr g, Tr t, T s] (· = B (treeOf g t s)) := by
  have hw := w121 g t hg hl hk t.length 0 (-1) 0 s (by omega)
  simp only [Int.natCast_zero] at hw
  refine gstart mxd i54 rfl (by simp) ?_; simp (maxSteps := 2000000) only [↓ S2, S2, vIte, ↓reduceIte, Int.reduceNe, Nat.reduceEqDiff, reduceCtorEq, Nat.reduceLeDiff, Nat.reduceAdd, Nat.reduceLT]
  (repeat' (first | (with_reducible refine callS.eq (w120 t hl) ?_) | (with_reducible refine callS.eq (hw) ?_) | simp (maxSteps := 2000000) only [↓ S2, S2, vIte, ↓reduceIte, Int.reduceNe, Nat.reduceEqDiff, reduceCtorEq, Nat.reduceLeDiff, Nat.reduceAdd, Nat.reduceLT] | simp only [brGen] | simp +contextual (disch := omega) only [Z2] | (with_reducible intro h) | (with_reducible refine And.intro (by omega) ?_) | (with_reducible refine exP (by omega) ?_) | (with_reducible apply And.intro)))
  all_goals first | (simp_all [treeOf]; done) | (simp_all [treeOf]; intros; omega)
theorem w125 (g : Gram) (hg : smGr g) : Pure Try.prog 125 [Gr g] (· = T (startS g)) := by
  have hl := hg.1
  refine gstart mxd i125 rfl (by simp) ?_; simp (maxSteps := 2000000) only [↓ S2, S2, vIte, ↓reduceIte, Int.reduceNe, Nat.reduceEqDiff, reduceCtorEq, Nat.reduceLeDiff, Nat.reduceAdd, Nat.reduceLT]
  ((try simp (maxSteps := 2000000) only [↓ S2, S2, vIte, ↓reduceIte, Int.reduceNe, Nat.reduceEqDiff, reduceCtorEq, Nat.reduceLeDiff, Nat.reduceAdd, Nat.reduceLT]); (repeat (simp only [brGen]; try simp (maxSteps := 2000000) only [↓ S2, S2, vIte, ↓reduceIte, Int.reduceNe, Nat.reduceEqDiff, reduceCtorEq, Nat.reduceLeDiff, Nat.reduceAdd, Nat.reduceLT])); (try simp +contextual (disch := omega) only [Z2]); (repeat' (first | (with_reducible intro h) | (with_reducible refine And.intro (by omega) ?_) | (with_reducible refine exP (by omega) ?_) | (with_reducible apply And.intro))))
  · simp only [startS]; rw [if_neg (by omega)]; rfl
  · simp only [startS, Int.reduceToNat]; rw [if_pos (by omega), getD_lt (by omega)]
theorem w56 (g : Gram) (t : List Nod) (hg : smGr g) (hl : t.length ≤ 1048576) (hk : ∀ x ∈ t, x.kids.length ≤ 1048576) : Pure Try.prog 56 [Gr g, Tr t] (· = B (treeOf g t (startS g))) := by
  refine gstart mxd i56 rfl (by simp) ?_; simp (maxSteps := 2000000) only [↓ S2, S2, vIte, ↓reduceIte, Int.reduceNe, Nat.reduceEqDiff, reduceCtorEq, Nat.reduceLeDiff, Nat.reduceAdd, Nat.reduceLT]
  (repeat' (first | (with_reducible refine callS.eq (w125 g hg) ?_) | (with_reducible refine callS.eq (w54 g t _ hg hl hk) ?_) | simp (maxSteps := 2000000) only [↓ S2, S2, vIte, ↓reduceIte, Int.reduceNe, Nat.reduceEqDiff, reduceCtorEq, Nat.reduceLeDiff, Nat.reduceAdd, Nat.reduceLT] | simp only [brGen] | simp +contextual (disch := omega) only [Z2] | (with_reducible intro h) | (with_reducible refine And.intro (by omega) ?_) | (with_reducible refine exP (by omega) ?_) | (with_reducible apply And.intro)))
theorem w57 (g : Gram) (t : List Nod) (hg : smGr g) (hl : t.length ≤ 1048576) (hk : ∀ x ∈ t, x.kids.length ≤ 1048576) : Pure Try.prog 57 [Gr g, Tr t] (· = B (treeOf g t (startS g))) := by
  have hgl := hg.1
  refine gstart mxd i57 rfl (by simp) ?_; simp (maxSteps := 2000000) only [↓ S2, S2, vIte, ↓reduceIte, Int.reduceNe, Nat.reduceEqDiff, reduceCtorEq, Nat.reduceLeDiff, Nat.reduceAdd, Nat.reduceLT]
  (repeat' (first | (with_reducible refine callS.eq (w55 g t _ hg hl hk) ?_) | simp (maxSteps := 2000000) only [↓ S2, S2, vIte, ↓reduceIte, Int.reduceNe, Nat.reduceEqDiff, reduceCtorEq, Nat.reduceLeDiff, Nat.reduceAdd, Nat.reduceLT] | simp only [brGen] | simp +contextual (disch := omega) only [Z2] | (with_reducible intro h) | (with_reducible refine And.intro (by omega) ?_) | (with_reducible refine exP (by omega) ?_) | (with_reducible apply And.intro)))
  · simp only [startS, Int.reduceToNat]; rw [if_pos (by omega), getD_lt (by omega)]
  · simp only [startS]; rw [if_neg (by omega)]; rfl
end Go.Proofs.Ytajhihnbnonadaa

namespace Go.Proofs.Ytajhihnbnonadaa
open Go.Gh
set_option maxRecDepth 20000
set_option linter.unusedSimpArgs false
set_option linter.unusedVariables false
theorem w12 (g : Gram) (t : List Nod) (hg : okGr g) (ht : ∀ x ∈ t, x.rule.size ≤ maxLen) : Pure Try.prog 12 [Gr g, Tr t] (· = B true) := by
  refine gstart mxd i12 rfl (by simp) ?_; simp (maxSteps := 2000000) only [↓ S2, S2, vIte, ↓reduceIte, Int.reduceNe, Nat.reduceEqDiff, reduceCtorEq, Nat.reduceLeDiff, Nat.reduceAdd, Nat.reduceLT]
  refine callS.eq (w34 g _ (by omega) (by omega) hg) ?_
  ((try simp (maxSteps := 2000000) only [↓ S2, S2, vIte, ↓reduceIte, Int.reduceNe, Nat.reduceEqDiff, reduceCtorEq, Nat.reduceLeDiff, Nat.reduceAdd, Nat.reduceLT]); (repeat (simp only [brGen]; try simp (maxSteps := 2000000) only [↓ S2, S2, vIte, ↓reduceIte, Int.reduceNe, Nat.reduceEqDiff, reduceCtorEq, Nat.reduceLeDiff, Nat.reduceAdd, Nat.reduceLT])); (try simp +contextual (disch := omega) only [Z2]); (repeat' (first | (with_reducible intro h) | (with_reducible refine And.intro (by omega) ?_) | (with_reducible refine exP (by omega) ?_) | (with_reducible apply And.intro))))
  have h1 := szv_nn h
  have hs := smGr_of (g := g) (by omega)
  rw [szv_pos h1]
  refine callS.eq (w13 t _ (by omega) (by omega) ht) ?_
  ((try simp (maxSteps := 2000000) only [↓ S2, S2, vIte, ↓reduceIte, Int.reduceNe, Nat.reduceEqDiff, reduceCtorEq, Nat.reduceLeDiff, Nat.reduceAdd, Nat.reduceLT]); (repeat (simp only [brGen]; try simp (maxSteps := 2000000) only [↓ S2, S2, vIte, ↓reduceIte, Int.reduceNe, Nat.reduceEqDiff, reduceCtorEq, Nat.reduceLeDiff, Nat.reduceAdd, Nat.reduceLT])); (try simp +contextual (disch := omega) only [Z2]); (repeat' (first | (with_reducible intro h) | (with_reducible refine And.intro (by omega) ?_) | (with_reducible refine exP (by omega) ?_) | (with_reducible apply And.intro))))
  have hb := szTr h (by omega)
  repeat' (first | (with_reducible refine callS.eq (w37 g hs) ?_) | (with_reducible refine callS.eq (w15 t hb.1 hb.2) ?_) | (with_reducible refine callS.eq (w56 g t hs hb.1 hb.2) ?_) | (with_reducible refine callS.eq (w57 g t hs hb.1 hb.2) ?_) | (with_reducible refine callS.eq (w41 g g) ?_) | (with_reducible refine callS.eq (w17 t t) ?_) | simp (maxSteps := 2000000) only [↓ S2, S2, vIte, ↓reduceIte, Int.reduceNe, Nat.reduceEqDiff, reduceCtorEq, Nat.reduceLeDiff, Nat.reduceAdd, Nat.reduceLT] | simp only [brGen] | simp +contextual (disch := omega) only [Z2] | (with_reducible intro h) | (with_reducible apply And.intro))
  all_goals first | rfl | (exfalso; simp_all; done) | simp_all
end Go.Proofs.Ytajhihnbnonadaa

namespace Go.Proofs.Ytajhihnbnonadaa
open Go.ChangeShapes Go.WideShapes Go.ChangeAt Go.RowKit Go.Gh
theorem Try.own : ownKnob Try.prog.godebug = none := by kernel_rfl
theorem Try.laidOut : laidOutB Try.prog = true := by kernel_rfl
/-- Types whose ghosts are told by a property: slices of expressions. -/
def Try.R : TypeId → Option (GV → Prop) := fun t => if t = 36 then some ExQ else none
set_option maxRecDepth 100000 in
theorem Try.knot {H : Type} {enc : TypeId × Value → H} {W : World} {spare : Nat → Bool} {held : Bool} : ∀ f t Q cs x, Try.R t = some Q → DataW.trod enc Try.prog W 0 spare held f t cs = some x → Lf W [.pr Q] cs :=
  Go.Gh.knot (tE := 38) (ts := ExT) (ag := true) 8 (by kernel_rfl) (by kernel_rfl) (by kernel_rfl) (by decide) (fun g h => exQ h)
set_option maxRecDepth 100000 in
theorem l12 (os : Os) (started : os.Started) (H : Type) (enc : TypeId × Value → H) :
    ReturnsInHanded {} Try.checked os 12 .any (Rows.fnExactIsValidTreeSpec.pre6 enc Try.prog Try.f12 Rows.fnExactIsValidTreeRow.domain false) (Rows.fnExactIsValidTreeSpec.post enc Try.prog Try.f12 false true false false) := by
  refine returnsInHanded_of_change (C := Try.checked) Try.own started (by kernel_rfl) Try.func12
    (ChangeSpec.witness6 (enc := enc) (C := Try.checked) false ⟨#[], #[.agg #[.slice none 0 0, .slice none 0 0], .agg #[.slice none 0 0]], []⟩ 8 (by kernel_rfl) (by kernel_rfl) (by kernel_rfl) (by kernel_rfl)) ?_
  intro W base args ds gs before hval0 hW hcnd _
  have hval : ∀ (j : Nat) t v, Try.f12.params[j]? = some t → args[j]? = some v → Value.okWide Try.prog W .any base t v := hval0
  have hW' := hW
  obtain ⟨p, q, hA0, hV, rfl, hfz, hnd⟩ := hW
  have hA : DataW.TrodAll enc Try.prog W 0 (fun _ => true) true Try.f12.params.toList args.toList ds p := hA0
  rw [Try.params12] at hA hval
  obtain ⟨v0, v1, d0, d1, p0, p1, rfl, rfl, rfl, h0, h1⟩ := trodAll_two hA
  obtain ⟨rfl, rfl⟩ := trodVars_none hV
  obtain ⟨g0, m0, e0⟩ := lift_valR (P := Try.prog) (R := Try.R) 8 Try.knot (by kernel_rfl) (ts := GrT) (ag := true) (by kernel_rfl) (hval 0 _ v0 rfl rfl) h0
  obtain ⟨g1, m1, e1⟩ := lift_val (P := Try.prog) 8 (by kernel_rfl) (hval 1 _ v1 rfl rfl) h1
  obtain ⟨g, rfl, hg⟩ := t_Gr e0
  obtain ⟨t, rfl, ht⟩ := t_Tr e1
  clear hA0 hval0
  simp only [List.append_nil] at hW'
  have hlt := hW'.lt
  refine ((w12 g t hg ht).out i12 (W := W) (args := [v0, v1]) (.cons0 m0 (.cons0 m1 .nil0))).mono fun e W' ⟨v, g, D, he, hg, hm, hb⟩ => ?_
  subst he; subst hg
  have hv := MV.val_inv hm
  subst hv
  exact ⟨_, rfl, post_of_below (pa := p0 ++ p1) (pv := []) hW' (fun _ _ _ => trodAll_mk1 (shut_bool Try.underlying4 _)) (fun sp hsp => trodAll_mk2 (WideElems.Trod_stays Try.laidOut (by kernel_rfl) (of_decide_eq_true (by kernel_rfl)) h0 (fun x hx => hb.same (hlt x (by simp [hx]))) (fun x hx => hsp x (by simp [hx]))) (WideElems.Trod_stays Try.laidOut (by kernel_rfl) (of_decide_eq_true (by kernel_rfl)) h1 (fun x hx => hb.same (hlt x (by simp [hx]))) (fun x hx => hsp x (by simp [hx])))) (fun _ _ => rfl) (by simp)
    hb (ok_one (by kernel_rfl) rfl (okWide_bool_mk Try.underlying4 _))⟩
theorem h12 : Rows.FnExactIsValidTreeSaid :=
  OpenClaim.holds_of_wide 12 Try.f12 rfl rfl rfl rfl rfl rfl rfl ⟨rfl, rfl, rfl, rfl, rfl⟩ rfl rfl rfl rfl rfl (by kernel_rfl) Try.func12 (by kernel_rfl)
    (of_decide_eq_true (by kernel_rfl)) (by unfold Func.isWrapper; first | (rw [if_pos (by decide +kernel)]; kernel_rfl) | (rw [if_neg (by decide +kernel)]; exact ⟨rfl, rfl⟩))
    (fun os started H enc _ => l12 os started H enc)
end Go.Proofs.Ytajhihnbnonadaa

