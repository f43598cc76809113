/- The tied card of the law FnExactParseExpr holds. No condition. -/
import Derived.Test.YtkmedfejmndmjaaGreatDoorPex2
import Derived.Test.YtkmedfejmndmjaaGreatDoorPex3
set_option linter.unusedSimpArgs false
set_option linter.unusedVariables false
namespace Go.Proofs.YtkmedfejmndmjaaGreatDoor
open Go.Gh
set_option maxRecDepth 20000
set_option linter.unusedSimpArgs false
set_option linter.unusedVariables false
open Go.Lib
theorem w69 (c : UInt8) : Pure Tryz.prog 69 [.val (.int .u8 c.toNat)] (· = B (letV c)) := by
  refine gstart mxd i69 rfl (by simp) ?_; simp (maxSteps := 2000000) only [↓ S2, S2, vIte, ↓reduceIte, Int.reduceNe, Nat.reduceEqDiff, reduceCtorEq, Nat.reduceLeDiff, Nat.reduceAdd, Nat.reduceLT]
  ((try with_reducible refine mkQI ?_); (repeat ((first | (with_reducible refine mkQU ?_) | simp only [brGen]); try simp (maxSteps := 2000000) only [↓ S2, S2, vIte, ↓reduceIte, Int.reduceNe, Nat.reduceEqDiff, reduceCtorEq, Nat.reduceLeDiff, Nat.reduceAdd, Nat.reduceLT])); (try simp +contextual (disch := omega) only [Z2]); (repeat' (first | (with_reducible intro h) | (with_reducible refine And.intro (by omega) ?_) | (with_reducible refine exP (by omega) ?_) | (with_reducible apply And.intro)))) <;> simp_all [letV] <;> (intros; omega)
theorem w70 (c : UInt8) : Pure Tryz.prog 70 [.val (.int .u8 c.toNat)] (· = B (digV c)) := by
  refine gstart mxd i70 rfl (by simp) ?_; simp (maxSteps := 2000000) only [↓ S2, S2, vIte, ↓reduceIte, Int.reduceNe, Nat.reduceEqDiff, reduceCtorEq, Nat.reduceLeDiff, Nat.reduceAdd, Nat.reduceLT]
  ((try with_reducible refine mkQI ?_); (repeat ((first | (with_reducible refine mkQU ?_) | simp only [brGen]); try simp (maxSteps := 2000000) only [↓ S2, S2, vIte, ↓reduceIte, Int.reduceNe, Nat.reduceEqDiff, reduceCtorEq, Nat.reduceLeDiff, Nat.reduceAdd, Nat.reduceLT])); (try simp +contextual (disch := omega) only [Z2]); (repeat' (first | (with_reducible intro h) | (with_reducible refine And.intro (by omega) ?_) | (with_reducible refine exP (by omega) ?_) | (with_reducible apply And.intro)))) <;> simp_all [digV] <;> (intros; omega)
theorem w72 (s : ByteArray) (k : Nat) (hk : k < (chars s).length) (hs : (chars s).length ≤ 1048576) : Pure Tryz.prog 72 [T s, I k] (· = I (sybN (chars s) k)) := by
  have hsz : s.size ≤ 1048576 := by rw [size_chars]; exact hs
  have hkk : ((k : Int) + 1).toNat = k + 1 := by omega
  refine gstart mxd i72 rfl (by simp) ?_; simp (maxSteps := 2000000) only [↓ S2, S2, vIte, ↓reduceIte, Int.reduceNe, Nat.reduceEqDiff, reduceCtorEq, Nat.reduceLeDiff, Nat.reduceAdd, Nat.reduceLT]
  ((try with_reducible refine mkQI ?_); (repeat ((first | (with_reducible refine mkQU ?_) | simp only [brGen]); try simp (maxSteps := 4000000) +contextual only [↓ S2, S2, vIte, ↓reduceIte, Int.reduceNe, Nat.reduceEqDiff, reduceCtorEq, Nat.reduceLeDiff, Nat.reduceAdd, Nat.reduceLT, hget_c, hset_c, hdel_c, neN, neA_cons, neA_nil, hkk])); (try simp +contextual (disch := omega) only [Z2, hkk]); (repeat' (first | (with_reducible intro h) | (with_reducible refine And.intro (by omega) ?_) | (with_reducible refine exP (by omega) ?_) | (with_reducible apply And.intro))))
  all_goals first
    | (rw [sybN_1 hk (by omega)]; rfl)
    | (rw [sybN_2 hk (by omega) (by omega) (by omega)]; rfl)
    | (rw [sybN_0 hk (by omega) (.inl (by omega))]; rfl)
    | (rw [sybN_0 hk (by omega) (.inr (.inl (by omega)))]; rfl)
    | (rw [sybN_0 hk (by omega) (.inr (.inr ⟨by omega, by omega⟩))]; rfl)
theorem w104 (s : ByteArray) (hd : ∀ c ∈ chars s, digV c = true) (h1 : 1 ≤ (chars s).length) (hs : (chars s).length ≤ 1048576) : Pure Tryz.prog 104 [T s, I 12] (· = .tup [I (redV (chars s)), B (redB (chars s))]) := by
  have hsz : s.size ≤ 1048576 := by rw [size_chars]; exact hs
  have hd' : ∀ (k : Nat) (h : k < (chars s).length), 48 ≤ ((chars s)[k].toNat : Int) ∧ ((chars s)[k].toNat : Int) ≤ 57 := fun k h => by
    have := hd _ (List.getElem_mem h)
    simpa only [digV, Bool.and_eq_true, decide_eq_true_eq] using this
  have h0 : ∀ h : Int.toNat 0 < (chars s).length, ¬ (((chars s)[Int.toNat 0]'h).toNat : Int) = 45 := fun h => by have := hd' _ h; omega
  by_cases hl : (chars s).length ≤ 12
  · refine gstart mxd i104 rfl (by simp) ?_; simp (maxSteps := 2000000) only [↓ S2, S2, vIte, ↓reduceIte, Int.reduceNe, Nat.reduceEqDiff, reduceCtorEq, Nat.reduceLeDiff, Nat.reduceAdd, Nat.reduceLT]
    ((try with_reducible refine mkQI ?_); (repeat ((first | (with_reducible refine mkQU ?_) | simp only [brGen]); try simp (maxSteps := 4000000) +contextual only [↓ S2, S2, vIte, ↓reduceIte, Int.reduceNe, Nat.reduceEqDiff, reduceCtorEq, Nat.reduceLeDiff, Nat.reduceAdd, Nat.reduceLT, hget_c, hset_c, hdel_c, neN, neA_cons, neA_nil, h0])); (try simp +contextual (disch := omega) only [Z2, h0]); (repeat' (first | (with_reducible intro h) | (with_reducible refine And.intro (by omega) ?_) | (with_reducible refine exP (by omega) ?_) | (with_reducible apply And.intro))))
    all_goals try (exfalso; omega)
    refine wloop mxd (ι := { i : Nat // i ≤ (chars s).length }) (fun i => [(0, T s), (6, B false), (7, T s), (8, I (valD ((chars s).take i.1))), (9, I i.1)]) (fun _ => []) (fun i => (chars s).length - i.1) ⟨0, by simp⟩ (by simp [E2, valD]) rfl ?_
    rintro ⟨i, hi⟩
    rcases Nat.lt_or_ge i (chars s).length with hlt | hge
    · have hb := hd' i hlt
      have hv := valD_bd ((chars s).take i) (fun c hc => hd c (List.mem_of_mem_take hc))
      have hp := pow12 (l := (chars s).take i) (by simp; omega)
      have hw : IntKind.u8.wrap (((chars s)[i].toNat : Int) - 48) = ((chars s)[i].toNat : Int) - 48 := wrap_u8 (by omega) (by omega)
      ((try with_reducible refine mkQI ?_); (repeat ((first | (with_reducible refine mkQU ?_) | simp only [brGen]); try simp (maxSteps := 4000000) +contextual only [↓ S2, S2, vIte, ↓reduceIte, Int.reduceNe, Nat.reduceEqDiff, reduceCtorEq, Nat.reduceLeDiff, Nat.reduceAdd, Nat.reduceLT, hget_c, hset_c, hdel_c, neN, neA_cons, neA_nil, hw])); (try simp +contextual (disch := omega) only [Z2, hw]); (repeat' (first | (with_reducible intro h) | (with_reducible refine And.intro (by omega) ?_) | (with_reducible refine exP (by omega) ?_) | (with_reducible apply And.intro))))
      all_goals try (exfalso; omega)
      rw [← valD_take hlt]
      exact nx ⟨i + 1, by omega⟩ (by dsimp only; omega) (by simp [E2]) rfl
    · obtain rfl : i = (chars s).length := by omega
      have hv := valD_bd (chars s) hd
      have hp := pow13 (l := chars s) hl
      rw [List.take_length]
      have hq := w58 (valD (chars s)) (by omega) (by omega)
      by_cases he : itoa (valD (chars s)) = chars s
      · have hB : redB (chars s) = true := by unfold redB; rw [decide_eq_true hl, decide_eq_true he]; rfl
        have hV : redV (chars s) = valD (chars s) := by unfold redV; rw [if_pos hB]
        rw [he] at hq
        ((try with_reducible refine mkQI ?_); (repeat ((first | (with_reducible refine mkQU ?_) | simp only [brGen]); try simp (maxSteps := 4000000) +contextual only [↓ S2, S2, vIte, ↓reduceIte, Int.reduceNe, Nat.reduceEqDiff, reduceCtorEq, Nat.reduceLeDiff, Nat.reduceAdd, Nat.reduceLT, hget_c, hset_c, hdel_c, neN, neA_cons, neA_nil, ])); (try simp +contextual (disch := omega) only [Z2, ]); (repeat' (first | (with_reducible intro h) | (with_reducible refine And.intro (by omega) ?_) | (with_reducible refine exP (by omega) ?_) | (with_reducible apply And.intro))))
        all_goals try (exfalso; omega)
        refine callS.eq hq ?_
        ((try with_reducible refine mkQI ?_); (repeat ((first | (with_reducible refine mkQU ?_) | simp only [brGen]); try simp (maxSteps := 4000000) +contextual only [↓ S2, S2, vIte, ↓reduceIte, Int.reduceNe, Nat.reduceEqDiff, reduceCtorEq, Nat.reduceLeDiff, Nat.reduceAdd, Nat.reduceLT, hget_c, hset_c, hdel_c, neN, neA_cons, neA_nil, hB, hV])); (try simp +contextual (disch := omega) only [Z2, hB, hV]); (repeat' (first | (with_reducible intro h) | (with_reducible refine And.intro (by omega) ?_) | (with_reducible refine exP (by omega) ?_) | (with_reducible apply And.intro))))
      · have hB : redB (chars s) = false := by unfold redB; rw [decide_eq_false he, Bool.and_false]
        have hV : redV (chars s) = 0 := by unfold redV; rw [if_neg (by rw [hB]; decide)]
        have hne : ¬ (⟨(itoa (valD (chars s))).toArray⟩ : ByteArray) = s := fun h => he (congrArg chars h)
        ((try with_reducible refine mkQI ?_); (repeat ((first | (with_reducible refine mkQU ?_) | simp only [brGen]); try simp (maxSteps := 4000000) +contextual only [↓ S2, S2, vIte, ↓reduceIte, Int.reduceNe, Nat.reduceEqDiff, reduceCtorEq, Nat.reduceLeDiff, Nat.reduceAdd, Nat.reduceLT, hget_c, hset_c, hdel_c, neN, neA_cons, neA_nil, ])); (try simp +contextual (disch := omega) only [Z2, ]); (repeat' (first | (with_reducible intro h) | (with_reducible refine And.intro (by omega) ?_) | (with_reducible refine exP (by omega) ?_) | (with_reducible apply And.intro))))
        all_goals try (exfalso; omega)
        refine callS.eq hq ?_
        ((try with_reducible refine mkQI ?_); (repeat ((first | (with_reducible refine mkQU ?_) | simp only [brGen]); try simp (maxSteps := 4000000) +contextual only [↓ S2, S2, vIte, ↓reduceIte, Int.reduceNe, Nat.reduceEqDiff, reduceCtorEq, Nat.reduceLeDiff, Nat.reduceAdd, Nat.reduceLT, hget_c, hset_c, hdel_c, neN, neA_cons, neA_nil, hne, hB, hV])); (try simp +contextual (disch := omega) only [Z2, hne, hB, hV]); (repeat' (first | (with_reducible intro h) | (with_reducible refine And.intro (by omega) ?_) | (with_reducible refine exP (by omega) ?_) | (with_reducible apply And.intro))))
  · have hB : redB (chars s) = false := by unfold redB; rw [decide_eq_false hl, Bool.false_and]
    have hV : redV (chars s) = 0 := by unfold redV; rw [if_neg (by rw [hB]; decide)]
    refine gstart mxd i104 rfl (by simp) ?_; simp (maxSteps := 2000000) only [↓ S2, S2, vIte, ↓reduceIte, Int.reduceNe, Nat.reduceEqDiff, reduceCtorEq, Nat.reduceLeDiff, Nat.reduceAdd, Nat.reduceLT]
    ((try with_reducible refine mkQI ?_); (repeat ((first | (with_reducible refine mkQU ?_) | simp only [brGen]); try simp (maxSteps := 4000000) +contextual only [↓ S2, S2, vIte, ↓reduceIte, Int.reduceNe, Nat.reduceEqDiff, reduceCtorEq, Nat.reduceLeDiff, Nat.reduceAdd, Nat.reduceLT, hget_c, hset_c, hdel_c, neN, neA_cons, neA_nil, h0])); (try simp +contextual (disch := omega) only [Z2, h0]); (repeat' (first | (with_reducible intro h) | (with_reducible refine And.intro (by omega) ?_) | (with_reducible refine exP (by omega) ?_) | (with_reducible apply And.intro))))
    all_goals try (exfalso; omega)
    all_goals rw [hB, hV]
theorem w71 (s : ByteArray) (hd : ∀ c ∈ chars s, digV c = true) (h1 : 1 ≤ (chars s).length) (hs : (chars s).length ≤ 1048576) : Pure Tryz.prog 71 [T s] (· = .tup [I (redV (chars s)), B (redB (chars s))]) := by
  refine gstart mxd i71 rfl (by simp) ?_; simp (maxSteps := 2000000) only [↓ S2, S2, vIte, ↓reduceIte, Int.reduceNe, Nat.reduceEqDiff, reduceCtorEq, Nat.reduceLeDiff, Nat.reduceAdd, Nat.reduceLT]
  ((try with_reducible refine mkQI ?_); (repeat ((first | (with_reducible refine mkQU ?_) | simp only [brGen]); try simp (maxSteps := 4000000) +contextual only [↓ S2, S2, vIte, ↓reduceIte, Int.reduceNe, Nat.reduceEqDiff, reduceCtorEq, Nat.reduceLeDiff, Nat.reduceAdd, Nat.reduceLT, hget_c, hset_c, hdel_c, neN, neA_cons, neA_nil, ])); (try simp +contextual (disch := omega) only [Z2, ]); (repeat' (first | (with_reducible intro h) | (with_reducible refine And.intro (by omega) ?_) | (with_reducible refine exP (by omega) ?_) | (with_reducible apply And.intro))))
  refine callS.eq (w104 s hd h1 hs) ?_
  ((try with_reducible refine mkQI ?_); (repeat ((first | (with_reducible refine mkQU ?_) | simp only [brGen]); try simp (maxSteps := 4000000) +contextual only [↓ S2, S2, vIte, ↓reduceIte, Int.reduceNe, Nat.reduceEqDiff, reduceCtorEq, Nat.reduceLeDiff, Nat.reduceAdd, Nat.reduceLT, hget_c, hset_c, hdel_c, neN, neA_cons, neA_nil, ])); (try simp +contextual (disch := omega) only [Z2, ]); (repeat' (first | (with_reducible intro h) | (with_reducible refine And.intro (by omega) ?_) | (with_reducible refine exP (by omega) ?_) | (with_reducible apply And.intro))))
end Go.Proofs.YtkmedfejmndmjaaGreatDoor

namespace Go.Proofs.YtkmedfejmndmjaaGreatDoor
open Go.Gh
set_option maxRecDepth 20000
set_option linter.unusedSimpArgs false
set_option linter.unusedVariables false
open Go.Lib
set_option maxHeartbeats 8000000 in
theorem w35 (s : ByteArray) (k : Nat) (hk : k < (chars s).length) (hs : (chars s).length ≤ 1048576) : Pure Tryz.prog 35 [T s, I k] (· = .tup [Tk (tokS (chars s) k), I (tokN (chars s) k).2]) := by
  have hsz : s.size ≤ 1048576 := by rw [size_chars]; exact hs
  have hT : tokS (chars s) k = _ := tokS_at hk
  have hN : (tokN (chars s) k).2 = _ := tokN_2 hk
  refine Pure.bor ?_
  by_cases hl : letV (chars s)[k] = true
  · rw [if_pos hl] at hT hN
    have hsp := spanL_le alnV ((chars s).drop k)
    rw [List.length_drop] at hsp
    generalize hn : spanL alnV ((chars s).drop k) = n at *
    rw [hT, hN]
    clear hT hN
    have fin : ∀ (i : Nat) (H : GH) (m : Int) (hi : i = k + n) (hm : m = ((if n ≤ 8 then n else 0 : Nat) : Int)), Bor H (.tup [.agg [I 1, I 0, I k, T ⟨(((chars s).take i).drop k).toArray⟩], I m]) (.tup [Tk ⟨1, 0, k, ⟨(((chars s).drop k).take n).toArray⟩⟩, I ((if n ≤ 8 then n else 0 : Nat) : Int)]) := fun i H m hi hm => by
      subst hi hm
      rw [take_drop_sub]
      exact .refl
    refine gstart mxd i35 rfl (by simp) ?_; simp (maxSteps := 2000000) only [↓ S2, S2, vIte, ↓reduceIte, Int.reduceNe, Nat.reduceEqDiff, reduceCtorEq, Nat.reduceLeDiff, Nat.reduceAdd, Nat.reduceLT]
    ((try with_reducible refine mkQI ?_); (repeat ((first | (with_reducible refine mkQU ?_) | simp only [brGen]); try simp (maxSteps := 4000000) +contextual only [↓ S2, S2, vIte, ↓reduceIte, Int.reduceNe, Nat.reduceEqDiff, reduceCtorEq, Nat.reduceLeDiff, Nat.reduceAdd, Nat.reduceLT, hget_c, hset_c, hdel_c, neN, neA_cons, neA_nil, ])); (try simp +contextual (disch := omega) only [Z2, ]); (repeat' (first | (with_reducible intro h) | (with_reducible refine And.intro (by omega) ?_) | (with_reducible refine exP (by omega) ?_) | (with_reducible apply And.intro))))
    refine callS.eq (w69 _) ?_
    ((try with_reducible refine mkQI ?_); (repeat ((first | (with_reducible refine mkQU ?_) | simp only [brGen]); try simp (maxSteps := 4000000) +contextual only [↓ S2, S2, vIte, ↓reduceIte, Int.reduceNe, Nat.reduceEqDiff, reduceCtorEq, Nat.reduceLeDiff, Nat.reduceAdd, Nat.reduceLT, hget_c, hset_c, hdel_c, neN, neA_cons, neA_nil, hl])); (try simp +contextual (disch := omega) only [Z2, hl]); (repeat' (first | (with_reducible intro h) | (with_reducible refine And.intro (by omega) ?_) | (with_reducible refine exP (by omega) ?_) | (with_reducible apply And.intro))))
    rename_i r
    refine wloop mxd (ι := { i : Nat // k ≤ i ∧ i ≤ (chars s).length ∧ i + spanL alnV ((chars s).drop i) = k + n }) (fun i => [(0, T s), (1, I k), (4, .raw 4), (6, .ptr r 4 0 0), (7, I i.1)]) (fun _ => [(r, 4, [.agg [I 0, I 0, I k, T noS]])]) (fun i => (chars s).length - i.1) ⟨k, by omega⟩ (by simp [E2]) rfl ?_
    rintro ⟨i, hi, hi2, hi3⟩
    rcases Nat.lt_or_ge i (chars s).length with hlt | hge
    · by_cases ha : alnV (chars s)[i] = true
      · have e1 := spanL_step hlt ha
        rcases aln_or ha with hq | ⟨hq1, hq2⟩
        · ((try with_reducible refine mkQI ?_); (repeat ((first | (with_reducible refine mkQU ?_) | simp only [brGen]); try simp (maxSteps := 4000000) +contextual only [↓ S2, S2, vIte, ↓reduceIte, Int.reduceNe, Nat.reduceEqDiff, reduceCtorEq, Nat.reduceLeDiff, Nat.reduceAdd, Nat.reduceLT, hget_c, hset_c, hdel_c, neN, neA_cons, neA_nil, hlt])); (try simp +contextual (disch := omega) only [Z2, hlt]); (repeat' (first | (with_reducible intro h) | (with_reducible refine And.intro (by omega) ?_) | (with_reducible refine exP (by omega) ?_) | (with_reducible apply And.intro))))
          refine callS.eq (w69 _) ?_
          ((try with_reducible refine mkQI ?_); (repeat ((first | (with_reducible refine mkQU ?_) | simp only [brGen]); try simp (maxSteps := 4000000) +contextual only [↓ S2, S2, vIte, ↓reduceIte, Int.reduceNe, Nat.reduceEqDiff, reduceCtorEq, Nat.reduceLeDiff, Nat.reduceAdd, Nat.reduceLT, hget_c, hset_c, hdel_c, neN, neA_cons, neA_nil, hq])); (try simp +contextual (disch := omega) only [Z2, hq]); (repeat' (first | (with_reducible intro h) | (with_reducible refine And.intro (by omega) ?_) | (with_reducible refine exP (by omega) ?_) | (with_reducible apply And.intro))))
          exact nx ⟨i + 1, by omega, by omega, by omega⟩ (by dsimp only; omega) (by simp [E2]) rfl
        · ((try with_reducible refine mkQI ?_); (repeat ((first | (with_reducible refine mkQU ?_) | simp only [brGen]); try simp (maxSteps := 4000000) +contextual only [↓ S2, S2, vIte, ↓reduceIte, Int.reduceNe, Nat.reduceEqDiff, reduceCtorEq, Nat.reduceLeDiff, Nat.reduceAdd, Nat.reduceLT, hget_c, hset_c, hdel_c, neN, neA_cons, neA_nil, hlt])); (try simp +contextual (disch := omega) only [Z2, hlt]); (repeat' (first | (with_reducible intro h) | (with_reducible refine And.intro (by omega) ?_) | (with_reducible refine exP (by omega) ?_) | (with_reducible apply And.intro))))
          refine callS.eq (w69 _) ?_
          ((try with_reducible refine mkQI ?_); (repeat ((first | (with_reducible refine mkQU ?_) | simp only [brGen]); try simp (maxSteps := 4000000) +contextual only [↓ S2, S2, vIte, ↓reduceIte, Int.reduceNe, Nat.reduceEqDiff, reduceCtorEq, Nat.reduceLeDiff, Nat.reduceAdd, Nat.reduceLT, hget_c, hset_c, hdel_c, neN, neA_cons, neA_nil, hq1])); (try simp +contextual (disch := omega) only [Z2, hq1]); (repeat' (first | (with_reducible intro h) | (with_reducible refine And.intro (by omega) ?_) | (with_reducible refine exP (by omega) ?_) | (with_reducible apply And.intro))))
          refine callS.eq (w70 _) ?_
          ((try with_reducible refine mkQI ?_); (repeat ((first | (with_reducible refine mkQU ?_) | simp only [brGen]); try simp (maxSteps := 4000000) +contextual only [↓ S2, S2, vIte, ↓reduceIte, Int.reduceNe, Nat.reduceEqDiff, reduceCtorEq, Nat.reduceLeDiff, Nat.reduceAdd, Nat.reduceLT, hget_c, hset_c, hdel_c, neN, neA_cons, neA_nil, hq2])); (try simp +contextual (disch := omega) only [Z2, hq2]); (repeat' (first | (with_reducible intro h) | (with_reducible refine And.intro (by omega) ?_) | (with_reducible refine exP (by omega) ?_) | (with_reducible apply And.intro))))
          exact nx ⟨i + 1, by omega, by omega, by omega⟩ (by dsimp only; omega) (by simp [E2]) rfl
      · have ha' : alnV (chars s)[i] = false := by simpa using ha
        obtain ⟨hq1, hq2⟩ := aln_no ha'
        rw [spanL_stop hlt ha'] at hi3
        ((try with_reducible refine mkQI ?_); (repeat ((first | (with_reducible refine mkQU ?_) | simp only [brGen]); try simp (maxSteps := 4000000) +contextual only [↓ S2, S2, vIte, ↓reduceIte, Int.reduceNe, Nat.reduceEqDiff, reduceCtorEq, Nat.reduceLeDiff, Nat.reduceAdd, Nat.reduceLT, hget_c, hset_c, hdel_c, neN, neA_cons, neA_nil, hlt])); (try simp +contextual (disch := omega) only [Z2, hlt]); (repeat' (first | (with_reducible intro h) | (with_reducible refine And.intro (by omega) ?_) | (with_reducible refine exP (by omega) ?_) | (with_reducible apply And.intro))))
        refine callS.eq (w69 _) ?_
        ((try with_reducible refine mkQI ?_); (repeat ((first | (with_reducible refine mkQU ?_) | simp only [brGen]); try simp (maxSteps := 4000000) +contextual only [↓ S2, S2, vIte, ↓reduceIte, Int.reduceNe, Nat.reduceEqDiff, reduceCtorEq, Nat.reduceLeDiff, Nat.reduceAdd, Nat.reduceLT, hget_c, hset_c, hdel_c, neN, neA_cons, neA_nil, hq1])); (try simp +contextual (disch := omega) only [Z2, hq1]); (repeat' (first | (with_reducible intro h) | (with_reducible refine And.intro (by omega) ?_) | (with_reducible refine exP (by omega) ?_) | (with_reducible apply And.intro))))
        refine callS.eq (w70 _) ?_
        ((try with_reducible refine mkQI ?_); (repeat ((first | (with_reducible refine mkQU ?_) | simp only [brGen]); try simp (maxSteps := 4000000) +contextual only [↓ S2, S2, vIte, ↓reduceIte, Int.reduceNe, Nat.reduceEqDiff, reduceCtorEq, Nat.reduceLeDiff, Nat.reduceAdd, Nat.reduceLT, hget_c, hset_c, hdel_c, neN, neA_cons, neA_nil, hq2])); (try simp +contextual (disch := omega) only [Z2, hq2]); (repeat' (first | (with_reducible intro h) | (with_reducible refine And.intro (by omega) ?_) | (with_reducible refine exP (by omega) ?_) | (with_reducible apply And.intro))))
        all_goals exact fin i _ _ hi3 (by split <;> omega)
    · rw [spanL_end hge] at hi3
      have hge' : ¬ i < (chars s).length := by omega
      ((try with_reducible refine mkQI ?_); (repeat ((first | (with_reducible refine mkQU ?_) | simp only [brGen]); try simp (maxSteps := 4000000) +contextual only [↓ S2, S2, vIte, ↓reduceIte, Int.reduceNe, Nat.reduceEqDiff, reduceCtorEq, Nat.reduceLeDiff, Nat.reduceAdd, Nat.reduceLT, hget_c, hset_c, hdel_c, neN, neA_cons, neA_nil, hge'])); (try simp +contextual (disch := omega) only [Z2, hge']); (repeat' (first | (with_reducible intro h) | (with_reducible refine And.intro (by omega) ?_) | (with_reducible refine exP (by omega) ?_) | (with_reducible apply And.intro))))
      all_goals try (exfalso; omega)
      all_goals exact fin i _ _ hi3 (by split <;> omega)
  · have hl' : letV (chars s)[k] = false := by simpa using hl
    rw [if_neg hl] at hT hN
    by_cases hd : digV (chars s)[k] = true
    · rw [if_pos hd] at hT hN
      have hsp := spanL_le digV ((chars s).drop k)
      have hsd := spanL_digs ((chars s).drop k)
      have hs1 := spanL_step hk hd
      rw [List.length_drop] at hsp
      generalize hn : spanL digV ((chars s).drop k) = n at *
      rw [hT, hN]
      clear hT hN
      generalize hw : (((chars s).drop k).take n) = w at *
      have fin : ∀ (H : GH) (m : Int) (x : Nat) (hm : m = (x : Int)), Bor H (.tup [.agg [I 2, I (redV w), I k, T noS], I m]) (.tup [Tk ⟨2, redV w, k, noS⟩, I (x : Int)]) := fun H m x hm => by
        subst hm
        exact .refl
      have hwl : w.length = n := by rw [← hw, List.length_take, List.length_drop]; omega
      have hpi := w71 ⟨w.toArray⟩ hsd (by show 1 ≤ w.length; omega) (by show w.length ≤ 1048576; omega)
      have e0 : chars ⟨w.toArray⟩ = w := rfl
      rw [e0] at hpi
      refine gstart mxd i35 rfl (by simp) ?_; simp (maxSteps := 2000000) only [↓ S2, S2, vIte, ↓reduceIte, Int.reduceNe, Nat.reduceEqDiff, reduceCtorEq, Nat.reduceLeDiff, Nat.reduceAdd, Nat.reduceLT]
      ((try with_reducible refine mkQI ?_); (repeat ((first | (with_reducible refine mkQU ?_) | simp only [brGen]); try simp (maxSteps := 4000000) +contextual only [↓ S2, S2, vIte, ↓reduceIte, Int.reduceNe, Nat.reduceEqDiff, reduceCtorEq, Nat.reduceLeDiff, Nat.reduceAdd, Nat.reduceLT, hget_c, hset_c, hdel_c, neN, neA_cons, neA_nil, ])); (try simp +contextual (disch := omega) only [Z2, ]); (repeat' (first | (with_reducible intro h) | (with_reducible refine And.intro (by omega) ?_) | (with_reducible refine exP (by omega) ?_) | (with_reducible apply And.intro))))
      refine callS.eq (w69 _) ?_
      ((try with_reducible refine mkQI ?_); (repeat ((first | (with_reducible refine mkQU ?_) | simp only [brGen]); try simp (maxSteps := 4000000) +contextual only [↓ S2, S2, vIte, ↓reduceIte, Int.reduceNe, Nat.reduceEqDiff, reduceCtorEq, Nat.reduceLeDiff, Nat.reduceAdd, Nat.reduceLT, hget_c, hset_c, hdel_c, neN, neA_cons, neA_nil, hl'])); (try simp +contextual (disch := omega) only [Z2, hl']); (repeat' (first | (with_reducible intro h) | (with_reducible refine And.intro (by omega) ?_) | (with_reducible refine exP (by omega) ?_) | (with_reducible apply And.intro))))
      refine callS.eq (w70 _) ?_
      ((try with_reducible refine mkQI ?_); (repeat ((first | (with_reducible refine mkQU ?_) | simp only [brGen]); try simp (maxSteps := 4000000) +contextual only [↓ S2, S2, vIte, ↓reduceIte, Int.reduceNe, Nat.reduceEqDiff, reduceCtorEq, Nat.reduceLeDiff, Nat.reduceAdd, Nat.reduceLT, hget_c, hset_c, hdel_c, neN, neA_cons, neA_nil, hd])); (try simp +contextual (disch := omega) only [Z2, hd]); (repeat' (first | (with_reducible intro h) | (with_reducible refine And.intro (by omega) ?_) | (with_reducible refine exP (by omega) ?_) | (with_reducible apply And.intro))))
      rename_i r
      refine wloop mxd (ι := { i : Nat // k ≤ i ∧ i ≤ (chars s).length ∧ i + spanL digV ((chars s).drop i) = k + n }) (fun i => [(0, T s), (1, I k), (4, .raw 4), (6, .ptr r 4 0 0), (7, I i.1)]) (fun _ => [(r, 4, [.agg [I 0, I 0, I k, T noS]])]) (fun i => (chars s).length - i.1) ⟨k, by omega⟩ (by simp [E2]) rfl ?_
      rintro ⟨i, hi, hi2, hi3⟩
      rcases Nat.lt_or_ge i (chars s).length with hlt | hge
      · by_cases ha : digV (chars s)[i] = true
        · have e1 := spanL_step hlt ha
          ((try with_reducible refine mkQI ?_); (repeat ((first | (with_reducible refine mkQU ?_) | simp only [brGen]); try simp (maxSteps := 4000000) +contextual only [↓ S2, S2, vIte, ↓reduceIte, Int.reduceNe, Nat.reduceEqDiff, reduceCtorEq, Nat.reduceLeDiff, Nat.reduceAdd, Nat.reduceLT, hget_c, hset_c, hdel_c, neN, neA_cons, neA_nil, hlt])); (try simp +contextual (disch := omega) only [Z2, hlt]); (repeat' (first | (with_reducible intro h) | (with_reducible refine And.intro (by omega) ?_) | (with_reducible refine exP (by omega) ?_) | (with_reducible apply And.intro))))
          refine callS.eq (w70 _) ?_
          ((try with_reducible refine mkQI ?_); (repeat ((first | (with_reducible refine mkQU ?_) | simp only [brGen]); try simp (maxSteps := 4000000) +contextual only [↓ S2, S2, vIte, ↓reduceIte, Int.reduceNe, Nat.reduceEqDiff, reduceCtorEq, Nat.reduceLeDiff, Nat.reduceAdd, Nat.reduceLT, hget_c, hset_c, hdel_c, neN, neA_cons, neA_nil, ha])); (try simp +contextual (disch := omega) only [Z2, ha]); (repeat' (first | (with_reducible intro h) | (with_reducible refine And.intro (by omega) ?_) | (with_reducible refine exP (by omega) ?_) | (with_reducible apply And.intro))))
          exact nx ⟨i + 1, by omega, by omega, by omega⟩ (by dsimp only; omega) (by simp [E2]) rfl
        · have ha' : digV (chars s)[i] = false := by simpa using ha
          rw [spanL_stop hlt ha'] at hi3
          obtain rfl : i = k + n := hi3
          have hw2 : (((chars s).take (k + n)).drop k) = w := by rw [take_drop_sub, hw]
          ((try with_reducible refine mkQI ?_); (repeat ((first | (with_reducible refine mkQU ?_) | simp only [brGen]); try simp (maxSteps := 4000000) +contextual only [↓ S2, S2, vIte, ↓reduceIte, Int.reduceNe, Nat.reduceEqDiff, reduceCtorEq, Nat.reduceLeDiff, Nat.reduceAdd, Nat.reduceLT, hget_c, hset_c, hdel_c, neN, neA_cons, neA_nil, hlt])); (try simp +contextual (disch := omega) only [Z2, hlt]); (repeat' (first | (with_reducible intro h) | (with_reducible refine And.intro (by omega) ?_) | (with_reducible refine exP (by omega) ?_) | (with_reducible apply And.intro))))
          refine callS.eq (w70 _) ?_
          ((try with_reducible refine mkQI ?_); (repeat ((first | (with_reducible refine mkQU ?_) | simp only [brGen]); try simp (maxSteps := 4000000) +contextual only [↓ S2, S2, vIte, ↓reduceIte, Int.reduceNe, Nat.reduceEqDiff, reduceCtorEq, Nat.reduceLeDiff, Nat.reduceAdd, Nat.reduceLT, hget_c, hset_c, hdel_c, neN, neA_cons, neA_nil, ha'])); (try simp +contextual (disch := omega) only [Z2, ha']); (repeat' (first | (with_reducible intro h) | (with_reducible refine And.intro (by omega) ?_) | (with_reducible refine exP (by omega) ?_) | (with_reducible apply And.intro))))
          rw [hw2]
          refine callS.eq hpi ?_
          by_cases hB : redB w = true
          · by_cases h6 : redV w ≤ 1000000
            · have h6' : ¬ 1000000 < redV w := by omega
              rw [if_pos (show redB w = true ∧ redV w ≤ 1000000 from ⟨hB, h6⟩)]
              ((try with_reducible refine mkQI ?_); (repeat ((first | (with_reducible refine mkQU ?_) | simp only [brGen]); try simp (maxSteps := 4000000) +contextual only [↓ S2, S2, vIte, ↓reduceIte, Int.reduceNe, Nat.reduceEqDiff, reduceCtorEq, Nat.reduceLeDiff, Nat.reduceAdd, Nat.reduceLT, hget_c, hset_c, hdel_c, neN, neA_cons, neA_nil, hB, h6'])); (try simp +contextual (disch := omega) only [Z2, hB, h6']); (repeat' (first | (with_reducible intro h) | (with_reducible refine And.intro (by omega) ?_) | (with_reducible refine exP (by omega) ?_) | (with_reducible apply And.intro))))
              all_goals exact fin _ _ _ (by omega)
            · have h6' : 1000000 < redV w := by omega
              rw [if_neg (show ¬ (redB w = true ∧ redV w ≤ 1000000) from fun h => h6 h.2)]
              ((try with_reducible refine mkQI ?_); (repeat ((first | (with_reducible refine mkQU ?_) | simp only [brGen]); try simp (maxSteps := 4000000) +contextual only [↓ S2, S2, vIte, ↓reduceIte, Int.reduceNe, Nat.reduceEqDiff, reduceCtorEq, Nat.reduceLeDiff, Nat.reduceAdd, Nat.reduceLT, hget_c, hset_c, hdel_c, neN, neA_cons, neA_nil, hB, h6'])); (try simp +contextual (disch := omega) only [Z2, hB, h6']); (repeat' (first | (with_reducible intro h) | (with_reducible refine And.intro (by omega) ?_) | (with_reducible refine exP (by omega) ?_) | (with_reducible apply And.intro))))
              all_goals exact fin _ _ 0 rfl
          · have hB' : redB w = false := by simpa using hB
            rw [if_neg (show ¬ (redB w = true ∧ redV w ≤ 1000000) from fun h => hB h.1)]
            ((try with_reducible refine mkQI ?_); (repeat ((first | (with_reducible refine mkQU ?_) | simp only [brGen]); try simp (maxSteps := 4000000) +contextual only [↓ S2, S2, vIte, ↓reduceIte, Int.reduceNe, Nat.reduceEqDiff, reduceCtorEq, Nat.reduceLeDiff, Nat.reduceAdd, Nat.reduceLT, hget_c, hset_c, hdel_c, neN, neA_cons, neA_nil, hB'])); (try simp +contextual (disch := omega) only [Z2, hB']); (repeat' (first | (with_reducible intro h) | (with_reducible refine And.intro (by omega) ?_) | (with_reducible refine exP (by omega) ?_) | (with_reducible apply And.intro))))
            all_goals exact fin _ _ 0 rfl
      · rw [spanL_end hge] at hi3
        obtain rfl : i = k + n := hi3
        have hge' : ¬ k + n < (chars s).length := by omega
        have hw2 : (((chars s).take (k + n)).drop k) = w := by rw [take_drop_sub, hw]
        ((try with_reducible refine mkQI ?_); (repeat ((first | (with_reducible refine mkQU ?_) | simp only [brGen]); try simp (maxSteps := 4000000) +contextual only [↓ S2, S2, vIte, ↓reduceIte, Int.reduceNe, Nat.reduceEqDiff, reduceCtorEq, Nat.reduceLeDiff, Nat.reduceAdd, Nat.reduceLT, hget_c, hset_c, hdel_c, neN, neA_cons, neA_nil, hge'])); (try simp +contextual (disch := omega) only [Z2, hge']); (repeat' (first | (with_reducible intro h) | (with_reducible refine And.intro (by omega) ?_) | (with_reducible refine exP (by omega) ?_) | (with_reducible apply And.intro))))
        all_goals try (exfalso; omega)
        rw [hw2]
        refine callS.eq hpi ?_
        by_cases hB : redB w = true
        · by_cases h6 : redV w ≤ 1000000
          · have h6' : ¬ 1000000 < redV w := by omega
            rw [if_pos (show redB w = true ∧ redV w ≤ 1000000 from ⟨hB, h6⟩)]
            ((try with_reducible refine mkQI ?_); (repeat ((first | (with_reducible refine mkQU ?_) | simp only [brGen]); try simp (maxSteps := 4000000) +contextual only [↓ S2, S2, vIte, ↓reduceIte, Int.reduceNe, Nat.reduceEqDiff, reduceCtorEq, Nat.reduceLeDiff, Nat.reduceAdd, Nat.reduceLT, hget_c, hset_c, hdel_c, neN, neA_cons, neA_nil, hB, h6'])); (try simp +contextual (disch := omega) only [Z2, hB, h6']); (repeat' (first | (with_reducible intro h) | (with_reducible refine And.intro (by omega) ?_) | (with_reducible refine exP (by omega) ?_) | (with_reducible apply And.intro))))
            all_goals exact fin _ _ _ (by omega)
          · have h6' : 1000000 < redV w := by omega
            rw [if_neg (show ¬ (redB w = true ∧ redV w ≤ 1000000) from fun h => h6 h.2)]
            ((try with_reducible refine mkQI ?_); (repeat ((first | (with_reducible refine mkQU ?_) | simp only [brGen]); try simp (maxSteps := 4000000) +contextual only [↓ S2, S2, vIte, ↓reduceIte, Int.reduceNe, Nat.reduceEqDiff, reduceCtorEq, Nat.reduceLeDiff, Nat.reduceAdd, Nat.reduceLT, hget_c, hset_c, hdel_c, neN, neA_cons, neA_nil, hB, h6'])); (try simp +contextual (disch := omega) only [Z2, hB, h6']); (repeat' (first | (with_reducible intro h) | (with_reducible refine And.intro (by omega) ?_) | (with_reducible refine exP (by omega) ?_) | (with_reducible apply And.intro))))
            all_goals exact fin _ _ 0 rfl
        · have hB' : redB w = false := by simpa using hB
          rw [if_neg (show ¬ (redB w = true ∧ redV w ≤ 1000000) from fun h => hB h.1)]
          ((try with_reducible refine mkQI ?_); (repeat ((first | (with_reducible refine mkQU ?_) | simp only [brGen]); try simp (maxSteps := 4000000) +contextual only [↓ S2, S2, vIte, ↓reduceIte, Int.reduceNe, Nat.reduceEqDiff, reduceCtorEq, Nat.reduceLeDiff, Nat.reduceAdd, Nat.reduceLT, hget_c, hset_c, hdel_c, neN, neA_cons, neA_nil, hB'])); (try simp +contextual (disch := omega) only [Z2, hB']); (repeat' (first | (with_reducible intro h) | (with_reducible refine And.intro (by omega) ?_) | (with_reducible refine exP (by omega) ?_) | (with_reducible apply And.intro))))
          all_goals exact fin _ _ 0 rfl
    · have hd' : digV (chars s)[k] = false := by simpa using hd
      rw [if_neg hd] at hT hN
      rw [hT, hN]
      have hle := sybN_le hk
      refine gstart mxd i35 rfl (by simp) ?_; simp (maxSteps := 2000000) only [↓ S2, S2, vIte, ↓reduceIte, Int.reduceNe, Nat.reduceEqDiff, reduceCtorEq, Nat.reduceLeDiff, Nat.reduceAdd, Nat.reduceLT]
      ((try with_reducible refine mkQI ?_); (repeat ((first | (with_reducible refine mkQU ?_) | simp only [brGen]); try simp (maxSteps := 4000000) +contextual only [↓ S2, S2, vIte, ↓reduceIte, Int.reduceNe, Nat.reduceEqDiff, reduceCtorEq, Nat.reduceLeDiff, Nat.reduceAdd, Nat.reduceLT, hget_c, hset_c, hdel_c, neN, neA_cons, neA_nil, ])); (try simp +contextual (disch := omega) only [Z2, ]); (repeat' (first | (with_reducible intro h) | (with_reducible refine And.intro (by omega) ?_) | (with_reducible refine exP (by omega) ?_) | (with_reducible apply And.intro))))
      refine callS.eq (w69 _) ?_
      ((try with_reducible refine mkQI ?_); (repeat ((first | (with_reducible refine mkQU ?_) | simp only [brGen]); try simp (maxSteps := 4000000) +contextual only [↓ S2, S2, vIte, ↓reduceIte, Int.reduceNe, Nat.reduceEqDiff, reduceCtorEq, Nat.reduceLeDiff, Nat.reduceAdd, Nat.reduceLT, hget_c, hset_c, hdel_c, neN, neA_cons, neA_nil, hl'])); (try simp +contextual (disch := omega) only [Z2, hl']); (repeat' (first | (with_reducible intro h) | (with_reducible refine And.intro (by omega) ?_) | (with_reducible refine exP (by omega) ?_) | (with_reducible apply And.intro))))
      refine callS.eq (w70 _) ?_
      ((try with_reducible refine mkQI ?_); (repeat ((first | (with_reducible refine mkQU ?_) | simp only [brGen]); try simp (maxSteps := 4000000) +contextual only [↓ S2, S2, vIte, ↓reduceIte, Int.reduceNe, Nat.reduceEqDiff, reduceCtorEq, Nat.reduceLeDiff, Nat.reduceAdd, Nat.reduceLT, hget_c, hset_c, hdel_c, neN, neA_cons, neA_nil, hd'])); (try simp +contextual (disch := omega) only [Z2, hd']); (repeat' (first | (with_reducible intro h) | (with_reducible refine And.intro (by omega) ?_) | (with_reducible refine exP (by omega) ?_) | (with_reducible apply And.intro))))
      refine callS.eq (w72 s k hk hs) ?_
      have hkm : ((k : Int) + (sybN (chars s) k : Int)).toNat = k + sybN (chars s) k := by omega
      have hks : (k : Int) + (sybN (chars s) k : Int) - k = (sybN (chars s) k : Int) := by omega
      ((try with_reducible refine mkQI ?_); (repeat ((first | (with_reducible refine mkQU ?_) | simp only [brGen]); try simp (maxSteps := 4000000) +contextual only [↓ S2, S2, vIte, ↓reduceIte, Int.reduceNe, Nat.reduceEqDiff, reduceCtorEq, Nat.reduceLeDiff, Nat.reduceAdd, Nat.reduceLT, hget_c, hset_c, hdel_c, neN, neA_cons, neA_nil, hkm, hks])); (try simp +contextual (disch := omega) only [Z2, hkm, hks]); (repeat' (first | (with_reducible intro h) | (with_reducible refine And.intro (by omega) ?_) | (with_reducible refine exP (by omega) ?_) | (with_reducible apply And.intro))))
      all_goals try (exfalso; omega)
      all_goals (rw [take_drop_sub]; exact .refl)
end Go.Proofs.YtkmedfejmndmjaaGreatDoor

namespace Go.Proofs.YtkmedfejmndmjaaGreatDoor
open Go.Gh
set_option maxRecDepth 20000
set_option linter.unusedSimpArgs false
set_option linter.unusedVariables false
open Go.Lib
set_option maxHeartbeats 4000000 in
theorem w14 (s : ByteArray) (hs : (chars s).length ≤ 1048576) : Pure Tryz.prog 14 [T s] (· = .tup [TkS (tokz (chars s)).1, I (tokz (chars s)).2]) := by
  have hsz : s.size ≤ 1048576 := by rw [size_chars]; exact hs
  refine Pure.bor ?_
  by_cases hl : 160 < (chars s).length
  · have e : tokz (chars s) = ([], 160) := by unfold tokz; rw [if_pos hl]
    rw [e]
    refine gstart mxd i14 rfl (by simp) ?_; simp (maxSteps := 2000000) only [↓ S2, S2, vIte, ↓reduceIte, Int.reduceNe, Nat.reduceEqDiff, reduceCtorEq, Nat.reduceLeDiff, Nat.reduceAdd, Nat.reduceLT]
    ((try with_reducible refine mkQI ?_); (repeat ((first | (with_reducible refine mkQU ?_) | simp only [brGen]); try simp (maxSteps := 4000000) +contextual only [↓ S2, S2, vIte, ↓reduceIte, Int.reduceNe, Nat.reduceEqDiff, reduceCtorEq, Nat.reduceLeDiff, Nat.reduceAdd, Nat.reduceLT, hget_c, hset_c, hdel_c, neN, neA_cons, neA_nil, hl])); (try simp +contextual (disch := omega) only [Z2, hl]); (repeat' (first | (with_reducible intro h) | (with_reducible refine And.intro (by omega) ?_) | (with_reducible refine exP (by omega) ?_) | (with_reducible apply And.intro))))
    all_goals try (exfalso; omega)
    rename_i r
    exact .tup (.cons (Bor.seenT (l := []) hget_new rfl) (.cons .refl .nil))
  · have e : tokz (chars s) = tokL (chars s) ((chars s).length + 1) 0 [] := by unfold tokz; rw [if_neg hl]
    refine gstart mxd i14 rfl (by simp) ?_; simp (maxSteps := 2000000) only [↓ S2, S2, vIte, ↓reduceIte, Int.reduceNe, Nat.reduceEqDiff, reduceCtorEq, Nat.reduceLeDiff, Nat.reduceAdd, Nat.reduceLT]
    ((try with_reducible refine mkQI ?_); (repeat ((first | (with_reducible refine mkQU ?_) | simp only [brGen]); try simp (maxSteps := 4000000) +contextual only [↓ S2, S2, vIte, ↓reduceIte, Int.reduceNe, Nat.reduceEqDiff, reduceCtorEq, Nat.reduceLeDiff, Nat.reduceAdd, Nat.reduceLT, hget_c, hset_c, hdel_c, neN, neA_cons, neA_nil, hl])); (try simp +contextual (disch := omega) only [Z2, hl]); (repeat' (first | (with_reducible intro h) | (with_reducible refine And.intro (by omega) ?_) | (with_reducible refine exP (by omega) ?_) | (with_reducible apply And.intro))))
    all_goals try (exfalso; omega)
    rename_i r
    refine ploop mxd (ι := { x : Nat × Nat × List Go.Gh.Tok // x.2.1 ≤ (chars s).length ∧ x.2.2.length ≤ 80 ∧ tokL (chars s) ((chars s).length + 1) x.2.1 x.2.2 = tokz (chars s) }) (fun x => [(0, T s), (4, .own x.1.1 4 0 x.1.2.2.length), (5, I x.1.2.1)]) (fun x => [(x.1.1, 4, x.1.2.2.map Tk)]) (fun x => (chars s).length - x.1.2.1) ⟨(r, 0, []), by simp [e]⟩ (by simp [E2]) (by simp [subH, hget, names]) ?_
    rintro ⟨⟨q, i, out⟩, hi, ho, ht⟩ hn
    dsimp only at hi ho ht hn ⊢
    rw [tokL_succ] at ht
    rcases Nat.lt_or_ge i (chars s).length with hlt | hge
    · rw [dif_pos hlt] at ht
      by_cases h32 : (chars s)[i] = 32
      · have h32' : ((chars s)[i].toNat : Int) = 32 := by rw [h32]; rfl
        rw [if_pos h32] at ht
        ((try with_reducible refine mkQI ?_); (repeat ((first | (with_reducible refine mkQU ?_) | simp only [brGen]); try simp (maxSteps := 4000000) +contextual only [↓ S2, S2, vIte, ↓reduceIte, Int.reduceNe, Nat.reduceEqDiff, reduceCtorEq, Nat.reduceLeDiff, Nat.reduceAdd, Nat.reduceLT, hget_c, hset_c, hdel_c, neN, neA_cons, neA_nil, hlt, h32'])); (try simp +contextual (disch := omega) only [Z2, hlt, h32']); (repeat' (first | (with_reducible intro h) | (with_reducible refine And.intro (by omega) ?_) | (with_reducible refine exP (by omega) ?_) | (with_reducible apply And.intro))))
        refine px ⟨(q, i + 1, out), by dsimp only; omega, ho, ?_⟩ (by dsimp only; omega) (by simp [E2]) (by simp [subH, hget, names])
        dsimp only
        rw [← ht]
        exact tokL_fuel _ _ _ _ (by omega) (by omega) (by omega)
      · have h32' : ¬ ((chars s)[i].toNat : Int) = 32 := fun h => h32 ((u8_eq _ _).2 h)
        rw [if_neg h32] at ht
        have hle := tokN_le (l := chars s) (k := i) hi
        by_cases h0 : (tokN (chars s) i).2 = 0
        · rw [if_pos (.inl h0)] at ht
          ((try with_reducible refine mkQI ?_); (repeat ((first | (with_reducible refine mkQU ?_) | simp only [brGen]); try simp (maxSteps := 4000000) +contextual only [↓ S2, S2, vIte, ↓reduceIte, Int.reduceNe, Nat.reduceEqDiff, reduceCtorEq, Nat.reduceLeDiff, Nat.reduceAdd, Nat.reduceLT, hget_c, hset_c, hdel_c, neN, neA_cons, neA_nil, hlt, h32'])); (try simp +contextual (disch := omega) only [Z2, hlt, h32']); (repeat' (first | (with_reducible intro h) | (with_reducible refine And.intro (by omega) ?_) | (with_reducible refine exP (by omega) ?_) | (with_reducible apply And.intro))))
          refine callS.eq (w35 s i hlt hs) ?_
          ((try with_reducible refine mkQI ?_); (repeat ((first | (with_reducible refine mkQU ?_) | simp only [brGen]); try simp (maxSteps := 4000000) +contextual only [↓ S2, S2, vIte, ↓reduceIte, Int.reduceNe, Nat.reduceEqDiff, reduceCtorEq, Nat.reduceLeDiff, Nat.reduceAdd, Nat.reduceLT, hget_c, hset_c, hdel_c, neN, neA_cons, neA_nil, h0])); (try simp +contextual (disch := omega) only [Z2, h0]); (repeat' (first | (with_reducible intro h) | (with_reducible refine And.intro (by omega) ?_) | (with_reducible refine exP (by omega) ?_) | (with_reducible apply And.intro))))
          all_goals try (exfalso; omega)
          all_goals (rw [← ht]; exact .tup (.cons (Bor.seenT (l := []) hget_new rfl) (.cons .refl .nil)))
        · have h0' : ¬ ((tokN (chars s) i).2 : Int) = 0 := by omega
          by_cases h8 : out.length = 80
          · have h8' : ((out.length : Int) = 80) := by omega
            rw [if_pos (.inr h8)] at ht
            ((try with_reducible refine mkQI ?_); (repeat ((first | (with_reducible refine mkQU ?_) | simp only [brGen]); try simp (maxSteps := 4000000) +contextual only [↓ S2, S2, vIte, ↓reduceIte, Int.reduceNe, Nat.reduceEqDiff, reduceCtorEq, Nat.reduceLeDiff, Nat.reduceAdd, Nat.reduceLT, hget_c, hset_c, hdel_c, neN, neA_cons, neA_nil, hlt, h32'])); (try simp +contextual (disch := omega) only [Z2, hlt, h32']); (repeat' (first | (with_reducible intro h) | (with_reducible refine And.intro (by omega) ?_) | (with_reducible refine exP (by omega) ?_) | (with_reducible apply And.intro))))
            refine callS.eq (w35 s i hlt hs) ?_
            ((try with_reducible refine mkQI ?_); (repeat ((first | (with_reducible refine mkQU ?_) | simp only [brGen]); try simp (maxSteps := 4000000) +contextual only [↓ S2, S2, vIte, ↓reduceIte, Int.reduceNe, Nat.reduceEqDiff, reduceCtorEq, Nat.reduceLeDiff, Nat.reduceAdd, Nat.reduceLT, hget_c, hset_c, hdel_c, neN, neA_cons, neA_nil, h0', h8'])); (try simp +contextual (disch := omega) only [Z2, h0', h8']); (repeat' (first | (with_reducible intro h) | (with_reducible refine And.intro (by omega) ?_) | (with_reducible refine exP (by omega) ?_) | (with_reducible apply And.intro))))
            all_goals try (exfalso; omega)
            all_goals (rw [← ht]; exact .tup (.cons (Bor.seenT (l := []) hget_new rfl) (.cons .refl .nil)))
          · have h8' : ¬ ((out.length : Int) = 80) := by omega
            rw [if_neg (by intro h; rcases h with h | h <;> contradiction), ← tokS_N hlt h0] at ht
            ((try with_reducible refine mkQI ?_); (repeat ((first | (with_reducible refine mkQU ?_) | simp only [brGen]); try simp (maxSteps := 4000000) +contextual only [↓ S2, S2, vIte, ↓reduceIte, Int.reduceNe, Nat.reduceEqDiff, reduceCtorEq, Nat.reduceLeDiff, Nat.reduceAdd, Nat.reduceLT, hget_c, hset_c, hdel_c, neN, neA_cons, neA_nil, hlt, h32'])); (try simp +contextual (disch := omega) only [Z2, hlt, h32']); (repeat' (first | (with_reducible intro h) | (with_reducible refine And.intro (by omega) ?_) | (with_reducible refine exP (by omega) ?_) | (with_reducible apply And.intro))))
            refine callS.eq (w35 s i hlt hs) ?_
            ((try with_reducible refine mkQI ?_); (repeat ((first | (with_reducible refine mkQU ?_) | simp only [brGen]); try simp (maxSteps := 4000000) +contextual only [↓ S2, S2, vIte, ↓reduceIte, Int.reduceNe, Nat.reduceEqDiff, reduceCtorEq, Nat.reduceLeDiff, Nat.reduceAdd, Nat.reduceLT, hget_c, hset_c, hdel_c, neN, neA_cons, neA_nil, h0', h8', List.length_map])); (try simp +contextual (disch := omega) only [Z2, h0', h8', List.length_map]); (repeat' (first | (with_reducible intro h) | (with_reducible refine And.intro (by omega) ?_) | (with_reducible refine exP (by omega) ?_) | (with_reducible apply And.intro))))
            all_goals try (exfalso; omega)
            all_goals first
              | omega
              | skip
            rename_i r1 r2
            refine px ⟨(r2, i + (tokN (chars s) i).2, out ++ [tokS (chars s) i]), by dsimp only; omega, by simp; omega, ?_⟩ (by dsimp only; omega) (by simp [E2]) (by simp [subH, hget, names, List.take_of_length_le])
            dsimp only
            rw [← ht]
            exact tokL_fuel _ _ _ _ (by omega) (by omega) (by omega)
    · rw [dif_neg (by omega)] at ht
      have hge' : ¬ i < (chars s).length := by omega
      ((try with_reducible refine mkQI ?_); (repeat ((first | (with_reducible refine mkQU ?_) | simp only [brGen]); try simp (maxSteps := 4000000) +contextual only [↓ S2, S2, vIte, ↓reduceIte, Int.reduceNe, Nat.reduceEqDiff, reduceCtorEq, Nat.reduceLeDiff, Nat.reduceAdd, Nat.reduceLT, hget_c, hset_c, hdel_c, neN, neA_cons, neA_nil, hge'])); (try simp +contextual (disch := omega) only [Z2, hge']); (repeat' (first | (with_reducible intro h) | (with_reducible refine And.intro (by omega) ?_) | (with_reducible refine exP (by omega) ?_) | (with_reducible apply And.intro))))
      all_goals try (exfalso; omega)
      all_goals (rw [← ht]; exact .tup (.cons (Bor.seenT hget_new rfl) (.cons .refl .nil)))
end Go.Proofs.YtkmedfejmndmjaaGreatDoor

namespace Go.Proofs.YtkmedfejmndmjaaGreatDoor
open Go.Gh
set_option maxRecDepth 20000
set_option linter.unusedSimpArgs false
set_option linter.unusedVariables false
open Go.Shelf Go.RowKit Go.Lib Go.Sort
theorem p120 (s : ByteArray) (hd : ∀ c ∈ chars s, digV c = true) (hne : chars s ≠ []) (hs : (chars s).length ≤ 1048576) : PureT Tryz.prog (tabE 1 3) 120 [T s] (atoR (chars s) (Tryz.atoiL_ren.t 168)) := by
  have eg : ∀ args w, (callFunc 120 args).run Tryz.prog w = .ok (.enter 120 args) w := enters_of Tryz.func120 (by kernel_rfl) rfl
  have hsz : s.size ≤ 1048576 := by rw [size_chars]; exact hs
  refine lib_ok (fun w D vs hm hn hml => ?_) (tabE_ok 1 3) eg
  obtain rfl : vs = [.string s] := by
    simp only [ML, MV] at hml
    obtain ⟨v, vs', F1, F2, rfl, _, ⟨rfl, _⟩, rfl, _⟩ := hml
    rfl
  obtain ⟨h1, h2⟩ := atoi_digs hd hne
  by_cases hv : valD (chars s) < 9223372036854775808
  · refine (Any.strconv_Atoi_ok Tryz.atoiL s (by omega) _ (h1 hv) w).mono ?_
    rintro e w' ⟨rfl, hw⟩
    refine ⟨_, .tup [I (valD (chars s)), .val .nilIface], rfl, .inl ⟨hv, rfl⟩, fun D' => MV.tup2 _ _, ?_⟩
    rcases hw with rfl | ⟨t, rfl⟩
    · exact Below.refl _ _
    · exact Lib.bytesWorld_below _ _ _
  · obtain ⟨te, pe, hc⟩ := HM.isE (m := 3) hm hn (by simp [tabE])
    refine (Any.strconv_Atoi_range Tryz.atoiL s (by omega) (h2 hv) _ w hc (.inr ⟨te, pe, rfl⟩)).mono ?_
    rintro e w' ⟨M, rfl, _, _, hb⟩
    exact ⟨_, .tup [I _, .val (.iface _ _)], rfl, .inr ⟨hv, _, _, rfl⟩, fun D' => MV.tup2 _ _, hb⟩
end Go.Proofs.YtkmedfejmndmjaaGreatDoor

namespace Go.Proofs.YtkmedfejmndmjaaGreatDoor
open Go.Gh
set_option maxRecDepth 20000
set_option linter.unusedSimpArgs false
set_option linter.unusedVariables false
open Go.Shelf Go.RowKit Go.Lib Go.Sort
theorem Tryz.inE : ∀ x ∈ tab10 1, x ∈ tabE 1 3 := fun x hx => by simp only [tab10, List.mem_singleton] at hx; subst hx; simp [tabE]
set_option maxHeartbeats 4000000 in
theorem p98 (s : ByteArray) (hd : ∀ c ∈ chars s, digV c = true) (hne : chars s ≠ []) (hs : (chars s).length ≤ 1048576) : PureT Tryz.prog (tabE 1 3) 98 [T s, I 0, I 1000000] (· = .tup [I ((numT (chars s)).getD 0), B (numT (chars s)).isSome]) := by
  have hb := (valD_bd (chars s) hd).1
  refine gstart mxd i98 rfl (by simp) ?_; simp (maxSteps := 2000000) only [↓ S2, S2, vIte, ↓reduceIte, Int.reduceNe, Nat.reduceEqDiff, reduceCtorEq, Nat.reduceLeDiff, Nat.reduceAdd, Nat.reduceLT]
  ((try with_reducible refine mkQI ?_); (repeat ((first | (with_reducible refine mkQU ?_) | simp only [brGen]); try simp (maxSteps := 4000000) +contextual only [↓ S2, S2, vIte, ↓reduceIte, Int.reduceNe, Nat.reduceEqDiff, reduceCtorEq, Nat.reduceLeDiff, Nat.reduceAdd, Nat.reduceLT, hget_c, hset_c, hdel_c, neN, neA_cons, neA_nil, ])); (try simp +contextual (disch := omega) only [Z2, ]); (repeat' (first | (with_reducible intro h) | (with_reducible refine And.intro (by omega) ?_) | (with_reducible refine exP (by omega) ?_) | (with_reducible apply And.intro))))
  refine callS.of ((p120 s hd hne hs).frame (tabH_E (by decide)) (fun _ h => h)) ?_
  rintro g H' ⟨hR, rfl⟩ hn
  rcases hR with ⟨hv, rfl⟩ | ⟨hv, n, p, rfl⟩
  · by_cases h6 : valD (chars s) ≤ 1000000
    · have h6' : (0 ≤ valD (chars s) ∧ valD (chars s) ≤ 1000000) := ⟨hb, h6⟩
      have hq := p54 (valD (chars s)) (by omega) (by omega)
      by_cases he : itoa (valD (chars s)) = chars s
      · have e : numT (chars s) = some (valD (chars s)) := by unfold numT; rw [if_pos ⟨he, h6⟩]
        rw [e]
        rw [he] at hq
        ((try with_reducible refine mkQI ?_); (repeat ((first | (with_reducible refine mkQU ?_) | simp only [brGen]); try simp (maxSteps := 4000000) +contextual only [↓ S2, S2, vIte, ↓reduceIte, Int.reduceNe, Nat.reduceEqDiff, reduceCtorEq, Nat.reduceLeDiff, Nat.reduceAdd, Nat.reduceLT, hget_c, hset_c, hdel_c, neN, neA_cons, neA_nil, ])); (try simp +contextual (disch := omega) only [Z2, ]); (repeat' (first | (with_reducible intro h) | (with_reducible refine And.intro (by omega) ?_) | (with_reducible refine exP (by omega) ?_) | (with_reducible apply And.intro))))
        refine callS.eq (w84 _ _ _) ?_
        ((try with_reducible refine mkQI ?_); (repeat ((first | (with_reducible refine mkQU ?_) | simp only [brGen]); try simp (maxSteps := 4000000) +contextual only [↓ S2, S2, vIte, ↓reduceIte, Int.reduceNe, Nat.reduceEqDiff, reduceCtorEq, Nat.reduceLeDiff, Nat.reduceAdd, Nat.reduceLT, hget_c, hset_c, hdel_c, neN, neA_cons, neA_nil, h6'])); (try simp +contextual (disch := omega) only [Z2, h6']); (repeat' (first | (with_reducible intro h) | (with_reducible refine And.intro (by omega) ?_) | (with_reducible refine exP (by omega) ?_) | (with_reducible apply And.intro))))
        refine callS.eqT hq (tabH_10 1) Tryz.inE ?_
        ((try with_reducible refine mkQI ?_); (repeat ((first | (with_reducible refine mkQU ?_) | simp only [brGen]); try simp (maxSteps := 4000000) +contextual only [↓ S2, S2, vIte, ↓reduceIte, Int.reduceNe, Nat.reduceEqDiff, reduceCtorEq, Nat.reduceLeDiff, Nat.reduceAdd, Nat.reduceLT, hget_c, hset_c, hdel_c, neN, neA_cons, neA_nil, ])); (try simp +contextual (disch := omega) only [Z2, ]); (repeat' (first | (with_reducible intro h) | (with_reducible refine And.intro (by omega) ?_) | (with_reducible refine exP (by omega) ?_) | (with_reducible apply And.intro))))
        rfl
      · have e : numT (chars s) = none := by unfold numT; rw [if_neg (fun h => he h.1)]
        have hne : ¬ (⟨(itoa (valD (chars s))).toArray⟩ : ByteArray) = s := fun h => he (congrArg chars h)
        rw [e]
        ((try with_reducible refine mkQI ?_); (repeat ((first | (with_reducible refine mkQU ?_) | simp only [brGen]); try simp (maxSteps := 4000000) +contextual only [↓ S2, S2, vIte, ↓reduceIte, Int.reduceNe, Nat.reduceEqDiff, reduceCtorEq, Nat.reduceLeDiff, Nat.reduceAdd, Nat.reduceLT, hget_c, hset_c, hdel_c, neN, neA_cons, neA_nil, ])); (try simp +contextual (disch := omega) only [Z2, ]); (repeat' (first | (with_reducible intro h) | (with_reducible refine And.intro (by omega) ?_) | (with_reducible refine exP (by omega) ?_) | (with_reducible apply And.intro))))
        refine callS.eq (w84 _ _ _) ?_
        ((try with_reducible refine mkQI ?_); (repeat ((first | (with_reducible refine mkQU ?_) | simp only [brGen]); try simp (maxSteps := 4000000) +contextual only [↓ S2, S2, vIte, ↓reduceIte, Int.reduceNe, Nat.reduceEqDiff, reduceCtorEq, Nat.reduceLeDiff, Nat.reduceAdd, Nat.reduceLT, hget_c, hset_c, hdel_c, neN, neA_cons, neA_nil, h6'])); (try simp +contextual (disch := omega) only [Z2, h6']); (repeat' (first | (with_reducible intro h) | (with_reducible refine And.intro (by omega) ?_) | (with_reducible refine exP (by omega) ?_) | (with_reducible apply And.intro))))
        refine callS.eqT hq (tabH_10 1) Tryz.inE ?_
        ((try with_reducible refine mkQI ?_); (repeat ((first | (with_reducible refine mkQU ?_) | simp only [brGen]); try simp (maxSteps := 4000000) +contextual only [↓ S2, S2, vIte, ↓reduceIte, Int.reduceNe, Nat.reduceEqDiff, reduceCtorEq, Nat.reduceLeDiff, Nat.reduceAdd, Nat.reduceLT, hget_c, hset_c, hdel_c, neN, neA_cons, neA_nil, hne])); (try simp +contextual (disch := omega) only [Z2, hne]); (repeat' (first | (with_reducible intro h) | (with_reducible refine And.intro (by omega) ?_) | (with_reducible refine exP (by omega) ?_) | (with_reducible apply And.intro))))
        rfl
    · have h6' : ¬ (0 ≤ valD (chars s) ∧ valD (chars s) ≤ 1000000) := fun h => h6 h.2
      have e : numT (chars s) = none := by unfold numT; rw [if_neg (fun h => h6 h.2)]
      rw [e]
      ((try with_reducible refine mkQI ?_); (repeat ((first | (with_reducible refine mkQU ?_) | simp only [brGen]); try simp (maxSteps := 4000000) +contextual only [↓ S2, S2, vIte, ↓reduceIte, Int.reduceNe, Nat.reduceEqDiff, reduceCtorEq, Nat.reduceLeDiff, Nat.reduceAdd, Nat.reduceLT, hget_c, hset_c, hdel_c, neN, neA_cons, neA_nil, ])); (try simp +contextual (disch := omega) only [Z2, ]); (repeat' (first | (with_reducible intro h) | (with_reducible refine And.intro (by omega) ?_) | (with_reducible refine exP (by omega) ?_) | (with_reducible apply And.intro))))
      refine callS.eq (w84 _ _ _) ?_
      ((try with_reducible refine mkQI ?_); (repeat ((first | (with_reducible refine mkQU ?_) | simp only [brGen]); try simp (maxSteps := 4000000) +contextual only [↓ S2, S2, vIte, ↓reduceIte, Int.reduceNe, Nat.reduceEqDiff, reduceCtorEq, Nat.reduceLeDiff, Nat.reduceAdd, Nat.reduceLT, hget_c, hset_c, hdel_c, neN, neA_cons, neA_nil, h6'])); (try simp +contextual (disch := omega) only [Z2, h6']); (repeat' (first | (with_reducible intro h) | (with_reducible refine And.intro (by omega) ?_) | (with_reducible refine exP (by omega) ?_) | (with_reducible apply And.intro))))
      rfl
  · have e : numT (chars s) = none := by unfold numT; rw [if_neg (fun h => hv (by have := h.2; omega))]
    rw [e]
    ((try with_reducible refine mkQI ?_); (repeat ((first | (with_reducible refine mkQU ?_) | simp only [brGen]); try simp (maxSteps := 4000000) +contextual only [↓ S2, S2, vIte, ↓reduceIte, Int.reduceNe, Nat.reduceEqDiff, reduceCtorEq, Nat.reduceLeDiff, Nat.reduceAdd, Nat.reduceLT, hget_c, hset_c, hdel_c, neN, neA_cons, neA_nil, ])); (try simp +contextual (disch := omega) only [Z2, ]); (repeat' (first | (with_reducible intro h) | (with_reducible refine And.intro (by omega) ?_) | (with_reducible refine exP (by omega) ?_) | (with_reducible apply And.intro))))
    rfl
theorem w121 (s p : ByteArray) (hs : (chars s).length ≤ 1048576) (hp : (chars p).length ≤ 1048576) : Pure Tryz.prog 121 [T s, T p] (· = B (hasPr (chars s) (chars p))) := by
  have hsz : s.size ≤ 1048576 := by rw [size_chars]; exact hs
  have hpz : p.size ≤ 1048576 := by rw [size_chars]; exact hp
  refine gstart mxd i121 rfl (by simp) ?_; simp (maxSteps := 2000000) only [↓ S2, S2, vIte, ↓reduceIte, Int.reduceNe, Nat.reduceEqDiff, reduceCtorEq, Nat.reduceLeDiff, Nat.reduceAdd, Nat.reduceLT]
  by_cases hl : (chars p).length ≤ (chars s).length
  · by_cases he : (chars s).take (chars p).length = chars p
    · have e : hasPr (chars s) (chars p) = true := by unfold hasPr; rw [decide_eq_true hl, decide_eq_true he]; rfl
      rw [e]
      ((try with_reducible refine mkQI ?_); (repeat ((first | (with_reducible refine mkQU ?_) | simp only [brGen]); try simp (maxSteps := 4000000) +contextual only [↓ S2, S2, vIte, ↓reduceIte, Int.reduceNe, Nat.reduceEqDiff, reduceCtorEq, Nat.reduceLeDiff, Nat.reduceAdd, Nat.reduceLT, hget_c, hset_c, hdel_c, neN, neA_cons, neA_nil, hl, he])); (try simp +contextual (disch := omega) only [Z2, hl, he]); (repeat' (first | (with_reducible intro h) | (with_reducible refine And.intro (by omega) ?_) | (with_reducible refine exP (by omega) ?_) | (with_reducible apply And.intro))))
      all_goals first | (exfalso; omega) | (show B (decide ((⟨(chars p).toArray⟩ : ByteArray) = p)) = B true; rw [decide_eq_true (chars_eta p)])
    · have e : hasPr (chars s) (chars p) = false := by unfold hasPr; rw [decide_eq_false he, Bool.and_false]
      have he' : ¬ (⟨((chars s).take (chars p).length).toArray⟩ : ByteArray) = p := fun h => he (congrArg chars h)
      rw [e]
      ((try with_reducible refine mkQI ?_); (repeat ((first | (with_reducible refine mkQU ?_) | simp only [brGen]); try simp (maxSteps := 4000000) +contextual only [↓ S2, S2, vIte, ↓reduceIte, Int.reduceNe, Nat.reduceEqDiff, reduceCtorEq, Nat.reduceLeDiff, Nat.reduceAdd, Nat.reduceLT, hget_c, hset_c, hdel_c, neN, neA_cons, neA_nil, hl])); (try simp +contextual (disch := omega) only [Z2, hl]); (repeat' (first | (with_reducible intro h) | (with_reducible refine And.intro (by omega) ?_) | (with_reducible refine exP (by omega) ?_) | (with_reducible apply And.intro))))
      all_goals first | (exfalso; omega) | (show B (decide ((⟨((chars s).take (chars p).length).toArray⟩ : ByteArray) = p)) = B false; rw [decide_eq_false he'])
  · have e : hasPr (chars s) (chars p) = false := by unfold hasPr; rw [decide_eq_false hl, Bool.false_and]
    rw [e]
    ((try with_reducible refine mkQI ?_); (repeat ((first | (with_reducible refine mkQU ?_) | simp only [brGen]); try simp (maxSteps := 4000000) +contextual only [↓ S2, S2, vIte, ↓reduceIte, Int.reduceNe, Nat.reduceEqDiff, reduceCtorEq, Nat.reduceLeDiff, Nat.reduceAdd, Nat.reduceLT, hget_c, hset_c, hdel_c, neN, neA_cons, neA_nil, hl])); (try simp +contextual (disch := omega) only [Z2, hl]); (repeat' (first | (with_reducible intro h) | (with_reducible refine And.intro (by omega) ?_) | (with_reducible refine exP (by omega) ?_) | (with_reducible apply And.intro))))
    all_goals first | rfl | (exfalso; omega)
theorem w99 (s p : ByteArray) (hs : (chars s).length ≤ 1048576) (hp : (chars p).length ≤ 1048576) : Pure Tryz.prog 99 [T s, T p] (· = B (hasPr (chars s) (chars p))) := by
  refine gstart mxd i99 rfl (by simp) ?_; simp (maxSteps := 2000000) only [↓ S2, S2, vIte, ↓reduceIte, Int.reduceNe, Nat.reduceEqDiff, reduceCtorEq, Nat.reduceLeDiff, Nat.reduceAdd, Nat.reduceLT]
  ((try with_reducible refine mkQI ?_); (repeat ((first | (with_reducible refine mkQU ?_) | simp only [brGen]); try simp (maxSteps := 4000000) +contextual only [↓ S2, S2, vIte, ↓reduceIte, Int.reduceNe, Nat.reduceEqDiff, reduceCtorEq, Nat.reduceLeDiff, Nat.reduceAdd, Nat.reduceLT, hget_c, hset_c, hdel_c, neN, neA_cons, neA_nil, ])); (try simp +contextual (disch := omega) only [Z2, ]); (repeat' (first | (with_reducible intro h) | (with_reducible refine And.intro (by omega) ?_) | (with_reducible refine exP (by omega) ?_) | (with_reducible apply And.intro))))
  refine callS.eq (w121 s p hs hp) ?_
  ((try with_reducible refine mkQI ?_); (repeat ((first | (with_reducible refine mkQU ?_) | simp only [brGen]); try simp (maxSteps := 4000000) +contextual only [↓ S2, S2, vIte, ↓reduceIte, Int.reduceNe, Nat.reduceEqDiff, reduceCtorEq, Nat.reduceLeDiff, Nat.reduceAdd, Nat.reduceLT, hget_c, hset_c, hdel_c, neN, neA_cons, neA_nil, ])); (try simp +contextual (disch := omega) only [Z2, ]); (repeat' (first | (with_reducible intro h) | (with_reducible refine And.intro (by omega) ?_) | (with_reducible refine exP (by omega) ?_) | (with_reducible apply And.intro))))
theorem w100 (s : ByteArray) (c : UInt8) : Pure Tryz.prog 100 [T s, .val (.int .u8 c.toNat)] (· = I (indexByte (chars s) c)) := by
  have eg : ∀ args w, (callFunc 100 args).run Tryz.prog w = .ok (.enter 100 args) w := enters_of Tryz.func100 (by kernel_rfl) rfl
  refine lib_ok (T := []) (fun w D vs hm hn hml => ?_) (by simp) eg
  obtain rfl : vs = [.string s, .int .u8 c.toNat] := by
    simp only [ML, MV] at hml
    obtain ⟨v, vs', F1, F2, rfl, _, ⟨rfl, _⟩, v2, vs2, F3, F4, rfl, _, ⟨rfl, _⟩, rfl, _⟩ := hml
    rfl
  refine (Go.Proofs.Any.strings_IndexByte Tryz.ixbL s (c.toNat : Int) w).mono ?_
  rintro e w' ⟨rfl, rfl⟩
  refine ⟨_, I (indexByte (chars s) c), rfl, rfl, fun D' => ?_, Below.refl _ _⟩
  have : ((c.toNat : Int).toNat.toUInt8) = c := by simp
  rw [this]
  exact MV.val_mk _
end Go.Proofs.YtkmedfejmndmjaaGreatDoor

namespace Go.Proofs.YtkmedfejmndmjaaGreatDoor
open Go.Gh
set_option maxRecDepth 20000
set_option linter.unusedSimpArgs false
set_option linter.unusedVariables false
open Go.Lib
set_option maxHeartbeats 8000000 in
theorem p63 (s : ByteArray) (k : Nat) (hk : k < (chars s).length) (hs : (chars s).length ≤ 1048576) : PureT Tryz.prog (tabE 1 3) 63 [T s, I k] (· = .tup [Tk (tokN (chars s) k).1, I (tokN (chars s) k).2]) := by
  have hsz : s.size ≤ 1048576 := by rw [size_chars]; exact hs
  by_cases hl : letV (chars s)[k] = true
  · have hN : tokN (chars s) k = _ := tokN_let hk hl
    have hsp := spanL_le alnV ((chars s).drop k)
    rw [List.length_drop] at hsp
    generalize hn : spanL alnV ((chars s).drop k) = n at *
    rw [hN]
    clear hN
    refine gstart mxd i63 rfl (by simp) ?_; simp (maxSteps := 2000000) only [↓ S2, S2, vIte, ↓reduceIte, Int.reduceNe, Nat.reduceEqDiff, reduceCtorEq, Nat.reduceLeDiff, Nat.reduceAdd, Nat.reduceLT]
    ((try with_reducible refine mkQI ?_); (repeat ((first | (with_reducible refine mkQU ?_) | simp only [brGen]); try simp (maxSteps := 4000000) +contextual only [↓ S2, S2, vIte, ↓reduceIte, Int.reduceNe, Nat.reduceEqDiff, reduceCtorEq, Nat.reduceLeDiff, Nat.reduceAdd, Nat.reduceLT, hget_c, hset_c, hdel_c, neN, neA_cons, neA_nil, ])); (try simp +contextual (disch := omega) only [Z2, ]); (repeat' (first | (with_reducible intro h) | (with_reducible refine And.intro (by omega) ?_) | (with_reducible refine exP (by omega) ?_) | (with_reducible apply And.intro))))
    refine callS.eq (w96 _) ?_
    ((try with_reducible refine mkQI ?_); (repeat ((first | (with_reducible refine mkQU ?_) | simp only [brGen]); try simp (maxSteps := 4000000) +contextual only [↓ S2, S2, vIte, ↓reduceIte, Int.reduceNe, Nat.reduceEqDiff, reduceCtorEq, Nat.reduceLeDiff, Nat.reduceAdd, Nat.reduceLT, hget_c, hset_c, hdel_c, neN, neA_cons, neA_nil, hl])); (try simp +contextual (disch := omega) only [Z2, hl]); (repeat' (first | (with_reducible intro h) | (with_reducible refine And.intro (by omega) ?_) | (with_reducible refine exP (by omega) ?_) | (with_reducible apply And.intro))))
    refine wloop mxd (ι := { i : Nat // k ≤ i ∧ i ≤ (chars s).length ∧ i + spanL alnV ((chars s).drop i) = k + n }) (fun i => [(0, T s), (1, I k), (4, .raw 4), (6, I i.1)]) (fun _ => tabE 1 3) (fun i => (chars s).length - i.1) ⟨k, by omega⟩ (by simp [E2]) rfl ?_
    rintro ⟨i, hi, hi2, hi3⟩
    have fin : i = k + n → (8 < (i : Int) - k → (GV.tup [Tk tokZ, I 0]) = .tup [Tk (if n ≤ 8 then (⟨1, 0, k, ⟨(((chars s).drop k).take n).toArray⟩⟩, n) else (tokZ, 0)).1, I (((if n ≤ 8 then (⟨1, 0, k, ⟨(((chars s).drop k).take n).toArray⟩⟩, n) else (tokZ, 0) : Go.Gh.Tok × Nat).2 : Nat) : Int)]) ∧ (¬ 8 < (i : Int) - k → (GV.tup [.agg [I 1, I 0, I k, T ⟨(((chars s).take i).drop k).toArray⟩], I ((i : Int) - k)]) = .tup [Tk (if n ≤ 8 then (⟨1, 0, k, ⟨(((chars s).drop k).take n).toArray⟩⟩, n) else (tokZ, 0)).1, I (((if n ≤ 8 then (⟨1, 0, k, ⟨(((chars s).drop k).take n).toArray⟩⟩, n) else (tokZ, 0) : Go.Gh.Tok × Nat).2 : Nat) : Int)]) := fun hi => by
      subst hi
      refine ⟨fun h => by rw [if_neg (by omega)]; rfl, fun h => ?_⟩
      rw [if_pos (by omega), take_drop_sub, show ((k + n : Nat) : Int) - k = (n : Int) by omega]
    rcases Nat.lt_or_ge i (chars s).length with hlt | hge
    · by_cases ha : alnV (chars s)[i] = true
      · have e1 := spanL_step hlt ha
        rcases aln_or ha with hq | ⟨hq1, hq2⟩
        · ((try with_reducible refine mkQI ?_); (repeat ((first | (with_reducible refine mkQU ?_) | simp only [brGen]); try simp (maxSteps := 4000000) +contextual only [↓ S2, S2, vIte, ↓reduceIte, Int.reduceNe, Nat.reduceEqDiff, reduceCtorEq, Nat.reduceLeDiff, Nat.reduceAdd, Nat.reduceLT, hget_c, hset_c, hdel_c, neN, neA_cons, neA_nil, hlt])); (try simp +contextual (disch := omega) only [Z2, hlt]); (repeat' (first | (with_reducible intro h) | (with_reducible refine And.intro (by omega) ?_) | (with_reducible refine exP (by omega) ?_) | (with_reducible apply And.intro))))
          refine callS.eq (w96 _) ?_
          ((try with_reducible refine mkQI ?_); (repeat ((first | (with_reducible refine mkQU ?_) | simp only [brGen]); try simp (maxSteps := 4000000) +contextual only [↓ S2, S2, vIte, ↓reduceIte, Int.reduceNe, Nat.reduceEqDiff, reduceCtorEq, Nat.reduceLeDiff, Nat.reduceAdd, Nat.reduceLT, hget_c, hset_c, hdel_c, neN, neA_cons, neA_nil, hq])); (try simp +contextual (disch := omega) only [Z2, hq]); (repeat' (first | (with_reducible intro h) | (with_reducible refine And.intro (by omega) ?_) | (with_reducible refine exP (by omega) ?_) | (with_reducible apply And.intro))))
          exact nx ⟨i + 1, by omega, by omega, by omega⟩ (by dsimp only; omega) (by simp [E2]) rfl
        · ((try with_reducible refine mkQI ?_); (repeat ((first | (with_reducible refine mkQU ?_) | simp only [brGen]); try simp (maxSteps := 4000000) +contextual only [↓ S2, S2, vIte, ↓reduceIte, Int.reduceNe, Nat.reduceEqDiff, reduceCtorEq, Nat.reduceLeDiff, Nat.reduceAdd, Nat.reduceLT, hget_c, hset_c, hdel_c, neN, neA_cons, neA_nil, hlt])); (try simp +contextual (disch := omega) only [Z2, hlt]); (repeat' (first | (with_reducible intro h) | (with_reducible refine And.intro (by omega) ?_) | (with_reducible refine exP (by omega) ?_) | (with_reducible apply And.intro))))
          refine callS.eq (w96 _) ?_
          ((try with_reducible refine mkQI ?_); (repeat ((first | (with_reducible refine mkQU ?_) | simp only [brGen]); try simp (maxSteps := 4000000) +contextual only [↓ S2, S2, vIte, ↓reduceIte, Int.reduceNe, Nat.reduceEqDiff, reduceCtorEq, Nat.reduceLeDiff, Nat.reduceAdd, Nat.reduceLT, hget_c, hset_c, hdel_c, neN, neA_cons, neA_nil, hq1])); (try simp +contextual (disch := omega) only [Z2, hq1]); (repeat' (first | (with_reducible intro h) | (with_reducible refine And.intro (by omega) ?_) | (with_reducible refine exP (by omega) ?_) | (with_reducible apply And.intro))))
          refine callS.eq (w97 _) ?_
          ((try with_reducible refine mkQI ?_); (repeat ((first | (with_reducible refine mkQU ?_) | simp only [brGen]); try simp (maxSteps := 4000000) +contextual only [↓ S2, S2, vIte, ↓reduceIte, Int.reduceNe, Nat.reduceEqDiff, reduceCtorEq, Nat.reduceLeDiff, Nat.reduceAdd, Nat.reduceLT, hget_c, hset_c, hdel_c, neN, neA_cons, neA_nil, hq2])); (try simp +contextual (disch := omega) only [Z2, hq2]); (repeat' (first | (with_reducible intro h) | (with_reducible refine And.intro (by omega) ?_) | (with_reducible refine exP (by omega) ?_) | (with_reducible apply And.intro))))
          exact nx ⟨i + 1, by omega, by omega, by omega⟩ (by dsimp only; omega) (by simp [E2]) rfl
      · have ha' : alnV (chars s)[i] = false := by simpa using ha
        obtain ⟨hq1, hq2⟩ := aln_no ha'
        rw [spanL_stop hlt ha'] at hi3
        obtain ⟨f1, f2⟩ := fin hi3
        ((try with_reducible refine mkQI ?_); (repeat ((first | (with_reducible refine mkQU ?_) | simp only [brGen]); try simp (maxSteps := 4000000) +contextual only [↓ S2, S2, vIte, ↓reduceIte, Int.reduceNe, Nat.reduceEqDiff, reduceCtorEq, Nat.reduceLeDiff, Nat.reduceAdd, Nat.reduceLT, hget_c, hset_c, hdel_c, neN, neA_cons, neA_nil, hlt])); (try simp +contextual (disch := omega) only [Z2, hlt]); (repeat' (first | (with_reducible intro h) | (with_reducible refine And.intro (by omega) ?_) | (with_reducible refine exP (by omega) ?_) | (with_reducible apply And.intro))))
        refine callS.eq (w96 _) ?_
        ((try with_reducible refine mkQI ?_); (repeat ((first | (with_reducible refine mkQU ?_) | simp only [brGen]); try simp (maxSteps := 4000000) +contextual only [↓ S2, S2, vIte, ↓reduceIte, Int.reduceNe, Nat.reduceEqDiff, reduceCtorEq, Nat.reduceLeDiff, Nat.reduceAdd, Nat.reduceLT, hget_c, hset_c, hdel_c, neN, neA_cons, neA_nil, hq1])); (try simp +contextual (disch := omega) only [Z2, hq1]); (repeat' (first | (with_reducible intro h) | (with_reducible refine And.intro (by omega) ?_) | (with_reducible refine exP (by omega) ?_) | (with_reducible apply And.intro))))
        refine callS.eq (w97 _) ?_
        ((try with_reducible refine mkQI ?_); (repeat ((first | (with_reducible refine mkQU ?_) | simp only [brGen]); try simp (maxSteps := 4000000) +contextual only [↓ S2, S2, vIte, ↓reduceIte, Int.reduceNe, Nat.reduceEqDiff, reduceCtorEq, Nat.reduceLeDiff, Nat.reduceAdd, Nat.reduceLT, hget_c, hset_c, hdel_c, neN, neA_cons, neA_nil, hq2])); (try simp +contextual (disch := omega) only [Z2, hq2]); (repeat' (first | (with_reducible intro h) | (with_reducible refine And.intro (by omega) ?_) | (with_reducible refine exP (by omega) ?_) | (with_reducible apply And.intro))))
        all_goals first | exact f1 (by assumption) | exact f2 (by assumption)
    · rw [spanL_end hge] at hi3
      obtain ⟨f1, f2⟩ := fin hi3
      have hge' : ¬ i < (chars s).length := by omega
      ((try with_reducible refine mkQI ?_); (repeat ((first | (with_reducible refine mkQU ?_) | simp only [brGen]); try simp (maxSteps := 4000000) +contextual only [↓ S2, S2, vIte, ↓reduceIte, Int.reduceNe, Nat.reduceEqDiff, reduceCtorEq, Nat.reduceLeDiff, Nat.reduceAdd, Nat.reduceLT, hget_c, hset_c, hdel_c, neN, neA_cons, neA_nil, hge'])); (try simp +contextual (disch := omega) only [Z2, hge']); (repeat' (first | (with_reducible intro h) | (with_reducible refine And.intro (by omega) ?_) | (with_reducible refine exP (by omega) ?_) | (with_reducible apply And.intro))))
      all_goals try (exfalso; omega)
      all_goals first | exact f1 (by assumption) | exact f2 (by assumption)
  · have hl' : letV (chars s)[k] = false := by simpa using hl
    by_cases hd : digV (chars s)[k] = true
    · have hN : tokN (chars s) k = _ := tokN_dig hk hl' hd
      have hsp := spanL_le digV ((chars s).drop k)
      have hsd := spanL_digs ((chars s).drop k)
      have hs1 := spanL_step hk hd
      rw [List.length_drop] at hsp
      generalize hn : spanL digV ((chars s).drop k) = n at *
      rw [hN]
      clear hN
      generalize hw : (((chars s).drop k).take n) = w at *
      have hwl : w.length = n := by rw [← hw, List.length_take, List.length_drop]; omega
      have hpi := p98 ⟨w.toArray⟩ hsd (by intro h; rw [show chars ⟨w.toArray⟩ = w from rfl] at h; rw [h] at hwl; simp at hwl; omega) (by show w.length ≤ 1048576; omega)
      have e0 : chars ⟨w.toArray⟩ = w := rfl
      rw [e0] at hpi
      refine gstart mxd i63 rfl (by simp) ?_; simp (maxSteps := 2000000) only [↓ S2, S2, vIte, ↓reduceIte, Int.reduceNe, Nat.reduceEqDiff, reduceCtorEq, Nat.reduceLeDiff, Nat.reduceAdd, Nat.reduceLT]
      ((try with_reducible refine mkQI ?_); (repeat ((first | (with_reducible refine mkQU ?_) | simp only [brGen]); try simp (maxSteps := 4000000) +contextual only [↓ S2, S2, vIte, ↓reduceIte, Int.reduceNe, Nat.reduceEqDiff, reduceCtorEq, Nat.reduceLeDiff, Nat.reduceAdd, Nat.reduceLT, hget_c, hset_c, hdel_c, neN, neA_cons, neA_nil, ])); (try simp +contextual (disch := omega) only [Z2, ]); (repeat' (first | (with_reducible intro h) | (with_reducible refine And.intro (by omega) ?_) | (with_reducible refine exP (by omega) ?_) | (with_reducible apply And.intro))))
      refine callS.eq (w96 _) ?_
      ((try with_reducible refine mkQI ?_); (repeat ((first | (with_reducible refine mkQU ?_) | simp only [brGen]); try simp (maxSteps := 4000000) +contextual only [↓ S2, S2, vIte, ↓reduceIte, Int.reduceNe, Nat.reduceEqDiff, reduceCtorEq, Nat.reduceLeDiff, Nat.reduceAdd, Nat.reduceLT, hget_c, hset_c, hdel_c, neN, neA_cons, neA_nil, hl'])); (try simp +contextual (disch := omega) only [Z2, hl']); (repeat' (first | (with_reducible intro h) | (with_reducible refine And.intro (by omega) ?_) | (with_reducible refine exP (by omega) ?_) | (with_reducible apply And.intro))))
      refine callS.eq (w97 _) ?_
      ((try with_reducible refine mkQI ?_); (repeat ((first | (with_reducible refine mkQU ?_) | simp only [brGen]); try simp (maxSteps := 4000000) +contextual only [↓ S2, S2, vIte, ↓reduceIte, Int.reduceNe, Nat.reduceEqDiff, reduceCtorEq, Nat.reduceLeDiff, Nat.reduceAdd, Nat.reduceLT, hget_c, hset_c, hdel_c, neN, neA_cons, neA_nil, hd])); (try simp +contextual (disch := omega) only [Z2, hd]); (repeat' (first | (with_reducible intro h) | (with_reducible refine And.intro (by omega) ?_) | (with_reducible refine exP (by omega) ?_) | (with_reducible apply And.intro))))
      refine wloop mxd (ι := { i : Nat // k ≤ i ∧ i ≤ (chars s).length ∧ i + spanL digV ((chars s).drop i) = k + n }) (fun i => [(0, T s), (1, I k), (4, .raw 4), (6, I i.1)]) (fun _ => tabE 1 3) (fun i => (chars s).length - i.1) ⟨k, by omega⟩ (by simp [E2]) rfl ?_
      rintro ⟨i, hi, hi2, hi3⟩
      rcases Nat.lt_or_ge i (chars s).length with hlt | hge
      · by_cases ha : digV (chars s)[i] = true
        · have e1 := spanL_step hlt ha
          ((try with_reducible refine mkQI ?_); (repeat ((first | (with_reducible refine mkQU ?_) | simp only [brGen]); try simp (maxSteps := 4000000) +contextual only [↓ S2, S2, vIte, ↓reduceIte, Int.reduceNe, Nat.reduceEqDiff, reduceCtorEq, Nat.reduceLeDiff, Nat.reduceAdd, Nat.reduceLT, hget_c, hset_c, hdel_c, neN, neA_cons, neA_nil, hlt])); (try simp +contextual (disch := omega) only [Z2, hlt]); (repeat' (first | (with_reducible intro h) | (with_reducible refine And.intro (by omega) ?_) | (with_reducible refine exP (by omega) ?_) | (with_reducible apply And.intro))))
          refine callS.eq (w97 _) ?_
          ((try with_reducible refine mkQI ?_); (repeat ((first | (with_reducible refine mkQU ?_) | simp only [brGen]); try simp (maxSteps := 4000000) +contextual only [↓ S2, S2, vIte, ↓reduceIte, Int.reduceNe, Nat.reduceEqDiff, reduceCtorEq, Nat.reduceLeDiff, Nat.reduceAdd, Nat.reduceLT, hget_c, hset_c, hdel_c, neN, neA_cons, neA_nil, ha])); (try simp +contextual (disch := omega) only [Z2, ha]); (repeat' (first | (with_reducible intro h) | (with_reducible refine And.intro (by omega) ?_) | (with_reducible refine exP (by omega) ?_) | (with_reducible apply And.intro))))
          exact nx ⟨i + 1, by omega, by omega, by omega⟩ (by dsimp only; omega) (by simp [E2]) rfl
        · have ha' : digV (chars s)[i] = false := by simpa using ha
          rw [spanL_stop hlt ha'] at hi3
          obtain rfl : i = k + n := hi3
          have hw2 : (((chars s).take (k + n)).drop k) = w := by rw [take_drop_sub, hw]
          ((try with_reducible refine mkQI ?_); (repeat ((first | (with_reducible refine mkQU ?_) | simp only [brGen]); try simp (maxSteps := 4000000) +contextual only [↓ S2, S2, vIte, ↓reduceIte, Int.reduceNe, Nat.reduceEqDiff, reduceCtorEq, Nat.reduceLeDiff, Nat.reduceAdd, Nat.reduceLT, hget_c, hset_c, hdel_c, neN, neA_cons, neA_nil, hlt])); (try simp +contextual (disch := omega) only [Z2, hlt]); (repeat' (first | (with_reducible intro h) | (with_reducible refine And.intro (by omega) ?_) | (with_reducible refine exP (by omega) ?_) | (with_reducible apply And.intro))))
          refine callS.eq (w97 _) ?_
          ((try with_reducible refine mkQI ?_); (repeat ((first | (with_reducible refine mkQU ?_) | simp only [brGen]); try simp (maxSteps := 4000000) +contextual only [↓ S2, S2, vIte, ↓reduceIte, Int.reduceNe, Nat.reduceEqDiff, reduceCtorEq, Nat.reduceLeDiff, Nat.reduceAdd, Nat.reduceLT, hget_c, hset_c, hdel_c, neN, neA_cons, neA_nil, ha'])); (try simp +contextual (disch := omega) only [Z2, ha']); (repeat' (first | (with_reducible intro h) | (with_reducible refine And.intro (by omega) ?_) | (with_reducible refine exP (by omega) ?_) | (with_reducible apply And.intro))))
          rw [hw2]
          refine callS.eqT hpi (tabH_E (by decide)) (fun _ h => h) ?_
          cases hnt : numT w with
          | none =>
            ((try with_reducible refine mkQI ?_); (repeat ((first | (with_reducible refine mkQU ?_) | simp only [brGen]); try simp (maxSteps := 4000000) +contextual only [↓ S2, S2, vIte, ↓reduceIte, Int.reduceNe, Nat.reduceEqDiff, reduceCtorEq, Nat.reduceLeDiff, Nat.reduceAdd, Nat.reduceLT, hget_c, hset_c, hdel_c, neN, neA_cons, neA_nil, Option.isSome_none, Option.getD_none])); (try simp +contextual (disch := omega) only [Z2, Option.isSome_none, Option.getD_none]); (repeat' (first | (with_reducible intro h) | (with_reducible refine And.intro (by omega) ?_) | (with_reducible refine exP (by omega) ?_) | (with_reducible apply And.intro))))
            all_goals rfl
          | some v =>
            ((try with_reducible refine mkQI ?_); (repeat ((first | (with_reducible refine mkQU ?_) | simp only [brGen]); try simp (maxSteps := 4000000) +contextual only [↓ S2, S2, vIte, ↓reduceIte, Int.reduceNe, Nat.reduceEqDiff, reduceCtorEq, Nat.reduceLeDiff, Nat.reduceAdd, Nat.reduceLT, hget_c, hset_c, hdel_c, neN, neA_cons, neA_nil, Option.isSome_some, Option.getD_some])); (try simp +contextual (disch := omega) only [Z2, Option.isSome_some, Option.getD_some]); (repeat' (first | (with_reducible intro h) | (with_reducible refine And.intro (by omega) ?_) | (with_reducible refine exP (by omega) ?_) | (with_reducible apply And.intro))))
            all_goals (rw [show (((k + n : Nat) : Int) - k) = (n : Int) by omega]; rfl)
      · rw [spanL_end hge] at hi3
        obtain rfl : i = k + n := hi3
        have hge' : ¬ k + n < (chars s).length := by omega
        have hw2 : (((chars s).take (k + n)).drop k) = w := by rw [take_drop_sub, hw]
        ((try with_reducible refine mkQI ?_); (repeat ((first | (with_reducible refine mkQU ?_) | simp only [brGen]); try simp (maxSteps := 4000000) +contextual only [↓ S2, S2, vIte, ↓reduceIte, Int.reduceNe, Nat.reduceEqDiff, reduceCtorEq, Nat.reduceLeDiff, Nat.reduceAdd, Nat.reduceLT, hget_c, hset_c, hdel_c, neN, neA_cons, neA_nil, hge'])); (try simp +contextual (disch := omega) only [Z2, hge']); (repeat' (first | (with_reducible intro h) | (with_reducible refine And.intro (by omega) ?_) | (with_reducible refine exP (by omega) ?_) | (with_reducible apply And.intro))))
        all_goals try (exfalso; omega)
        rw [hw2]
        refine callS.eqT hpi (tabH_E (by decide)) (fun _ h => h) ?_
        cases hnt : numT w with
        | none =>
          ((try with_reducible refine mkQI ?_); (repeat ((first | (with_reducible refine mkQU ?_) | simp only [brGen]); try simp (maxSteps := 4000000) +contextual only [↓ S2, S2, vIte, ↓reduceIte, Int.reduceNe, Nat.reduceEqDiff, reduceCtorEq, Nat.reduceLeDiff, Nat.reduceAdd, Nat.reduceLT, hget_c, hset_c, hdel_c, neN, neA_cons, neA_nil, Option.isSome_none, Option.getD_none])); (try simp +contextual (disch := omega) only [Z2, Option.isSome_none, Option.getD_none]); (repeat' (first | (with_reducible intro h) | (with_reducible refine And.intro (by omega) ?_) | (with_reducible refine exP (by omega) ?_) | (with_reducible apply And.intro))))
          all_goals rfl
        | some v =>
          ((try with_reducible refine mkQI ?_); (repeat ((first | (with_reducible refine mkQU ?_) | simp only [brGen]); try simp (maxSteps := 4000000) +contextual only [↓ S2, S2, vIte, ↓reduceIte, Int.reduceNe, Nat.reduceEqDiff, reduceCtorEq, Nat.reduceLeDiff, Nat.reduceAdd, Nat.reduceLT, hget_c, hset_c, hdel_c, neN, neA_cons, neA_nil, Option.isSome_some, Option.getD_some])); (try simp +contextual (disch := omega) only [Z2, Option.isSome_some, Option.getD_some]); (repeat' (first | (with_reducible intro h) | (with_reducible refine And.intro (by omega) ?_) | (with_reducible refine exP (by omega) ?_) | (with_reducible apply And.intro))))
          all_goals (rw [show (((k + n : Nat) : Int) - k) = (n : Int) by omega]; rfl)
    · have hd' : digV (chars s)[k] = false := by simpa using hd
      have hN := tokN_sym hk hl' hd'
      have hkk : ((k : Int) + 1).toNat = k + 1 := by omega
      have hpr := hasPr_eq hk
      have hp := w99 ⟨((chars s).drop k).toArray⟩ ⟨#[61, 61]⟩ (by show ((chars s).drop k).length ≤ 1048576; rw [List.length_drop]; omega) (by decide)
      have hp' : hasPr (chars ⟨((chars s).drop k).toArray⟩) (chars ⟨#[61, 61]⟩) = hasPr ((chars s).drop k) [61, 61] := rfl
      rw [hp'] at hp
      have htk : (chars s).take (chars s).length = chars s := List.take_length
      rw [hN]
      by_cases h2 : (chars s)[k] = 61 ∧ (chars s)[k + 1]? = some 61
      · have hns : ¬ (chars s)[k] ∈ symC := by rw [h2.1]; decide
        rw [if_neg hns, if_pos h2]
        rw [hpr, decide_eq_true h2] at hp
        refine gstart mxd i63 rfl (by simp) ?_; simp (maxSteps := 2000000) only [↓ S2, S2, vIte, ↓reduceIte, Int.reduceNe, Nat.reduceEqDiff, reduceCtorEq, Nat.reduceLeDiff, Nat.reduceAdd, Nat.reduceLT]
        ((try with_reducible refine mkQI ?_); (repeat ((first | (with_reducible refine mkQU ?_) | simp only [brGen]); try simp (maxSteps := 4000000) +contextual only [↓ S2, S2, vIte, ↓reduceIte, Int.reduceNe, Nat.reduceEqDiff, reduceCtorEq, Nat.reduceLeDiff, Nat.reduceAdd, Nat.reduceLT, hget_c, hset_c, hdel_c, neN, neA_cons, neA_nil, ])); (try simp +contextual (disch := omega) only [Z2, ]); (repeat' (first | (with_reducible intro h) | (with_reducible refine And.intro (by omega) ?_) | (with_reducible refine exP (by omega) ?_) | (with_reducible apply And.intro))))
        refine callS.eq (w96 _) ?_
        ((try with_reducible refine mkQI ?_); (repeat ((first | (with_reducible refine mkQU ?_) | simp only [brGen]); try simp (maxSteps := 4000000) +contextual only [↓ S2, S2, vIte, ↓reduceIte, Int.reduceNe, Nat.reduceEqDiff, reduceCtorEq, Nat.reduceLeDiff, Nat.reduceAdd, Nat.reduceLT, hget_c, hset_c, hdel_c, neN, neA_cons, neA_nil, hl'])); (try simp +contextual (disch := omega) only [Z2, hl']); (repeat' (first | (with_reducible intro h) | (with_reducible refine And.intro (by omega) ?_) | (with_reducible refine exP (by omega) ?_) | (with_reducible apply And.intro))))
        refine callS.eq (w97 _) ?_
        ((try with_reducible refine mkQI ?_); (repeat ((first | (with_reducible refine mkQU ?_) | simp only [brGen]); try simp (maxSteps := 4000000) +contextual only [↓ S2, S2, vIte, ↓reduceIte, Int.reduceNe, Nat.reduceEqDiff, reduceCtorEq, Nat.reduceLeDiff, Nat.reduceAdd, Nat.reduceLT, hget_c, hset_c, hdel_c, neN, neA_cons, neA_nil, hd', htk])); (try simp +contextual (disch := omega) only [Z2, hd', htk]); (repeat' (first | (with_reducible intro h) | (with_reducible refine And.intro (by omega) ?_) | (with_reducible refine exP (by omega) ?_) | (with_reducible apply And.intro))))
        all_goals try (exfalso; omega)
        refine callS.eq hp ?_
        ((try with_reducible refine mkQI ?_); (repeat ((first | (with_reducible refine mkQU ?_) | simp only [brGen]); try simp (maxSteps := 4000000) +contextual only [↓ S2, S2, vIte, ↓reduceIte, Int.reduceNe, Nat.reduceEqDiff, reduceCtorEq, Nat.reduceLeDiff, Nat.reduceAdd, Nat.reduceLT, hget_c, hset_c, hdel_c, neN, neA_cons, neA_nil, ])); (try simp +contextual (disch := omega) only [Z2, ]); (repeat' (first | (with_reducible intro h) | (with_reducible refine And.intro (by omega) ?_) | (with_reducible refine exP (by omega) ?_) | (with_reducible apply And.intro))))
        all_goals rfl
      · rw [hpr, decide_eq_false h2] at hp
        have hix := ix_mem symC (chars s)[k]
        by_cases hm : (chars s)[k] ∈ symC
        · have hix' := hix.2 hm
          rw [if_pos hm]
          refine gstart mxd i63 rfl (by simp) ?_; simp (maxSteps := 2000000) only [↓ S2, S2, vIte, ↓reduceIte, Int.reduceNe, Nat.reduceEqDiff, reduceCtorEq, Nat.reduceLeDiff, Nat.reduceAdd, Nat.reduceLT]
          ((try with_reducible refine mkQI ?_); (repeat ((first | (with_reducible refine mkQU ?_) | simp only [brGen]); try simp (maxSteps := 4000000) +contextual only [↓ S2, S2, vIte, ↓reduceIte, Int.reduceNe, Nat.reduceEqDiff, reduceCtorEq, Nat.reduceLeDiff, Nat.reduceAdd, Nat.reduceLT, hget_c, hset_c, hdel_c, neN, neA_cons, neA_nil, ])); (try simp +contextual (disch := omega) only [Z2, ]); (repeat' (first | (with_reducible intro h) | (with_reducible refine And.intro (by omega) ?_) | (with_reducible refine exP (by omega) ?_) | (with_reducible apply And.intro))))
          refine callS.eq (w96 _) ?_
          ((try with_reducible refine mkQI ?_); (repeat ((first | (with_reducible refine mkQU ?_) | simp only [brGen]); try simp (maxSteps := 4000000) +contextual only [↓ S2, S2, vIte, ↓reduceIte, Int.reduceNe, Nat.reduceEqDiff, reduceCtorEq, Nat.reduceLeDiff, Nat.reduceAdd, Nat.reduceLT, hget_c, hset_c, hdel_c, neN, neA_cons, neA_nil, hl'])); (try simp +contextual (disch := omega) only [Z2, hl']); (repeat' (first | (with_reducible intro h) | (with_reducible refine And.intro (by omega) ?_) | (with_reducible refine exP (by omega) ?_) | (with_reducible apply And.intro))))
          refine callS.eq (w97 _) ?_
          ((try with_reducible refine mkQI ?_); (repeat ((first | (with_reducible refine mkQU ?_) | simp only [brGen]); try simp (maxSteps := 4000000) +contextual only [↓ S2, S2, vIte, ↓reduceIte, Int.reduceNe, Nat.reduceEqDiff, reduceCtorEq, Nat.reduceLeDiff, Nat.reduceAdd, Nat.reduceLT, hget_c, hset_c, hdel_c, neN, neA_cons, neA_nil, hd', htk])); (try simp +contextual (disch := omega) only [Z2, hd', htk]); (repeat' (first | (with_reducible intro h) | (with_reducible refine And.intro (by omega) ?_) | (with_reducible refine exP (by omega) ?_) | (with_reducible apply And.intro))))
          all_goals try (exfalso; omega)
          refine callS.eq hp ?_
          ((try with_reducible refine mkQI ?_); (repeat ((first | (with_reducible refine mkQU ?_) | simp only [brGen]); try simp (maxSteps := 4000000) +contextual only [↓ S2, S2, vIte, ↓reduceIte, Int.reduceNe, Nat.reduceEqDiff, reduceCtorEq, Nat.reduceLeDiff, Nat.reduceAdd, Nat.reduceLT, hget_c, hset_c, hdel_c, neN, neA_cons, neA_nil, ])); (try simp +contextual (disch := omega) only [Z2, ]); (repeat' (first | (with_reducible intro h) | (with_reducible refine And.intro (by omega) ?_) | (with_reducible refine exP (by omega) ?_) | (with_reducible apply And.intro))))
          refine callS.eq (w100 ⟨#[40, 41, 123, 125, 44, 46, 36, 43, 45, 42, 60, 124, 38, 92]⟩ _) ?_
          rw [show chars ⟨#[40, 41, 123, 125, 44, 46, 36, 43, 45, 42, 60, 124, 38, 92]⟩ = symC from rfl]
          ((try with_reducible refine mkQI ?_); (repeat ((first | (with_reducible refine mkQU ?_) | simp only [brGen]); try simp (maxSteps := 4000000) +contextual only [↓ S2, S2, vIte, ↓reduceIte, Int.reduceNe, Nat.reduceEqDiff, reduceCtorEq, Nat.reduceLeDiff, Nat.reduceAdd, Nat.reduceLT, hget_c, hset_c, hdel_c, neN, neA_cons, neA_nil, hix', hkk])); (try simp +contextual (disch := omega) only [Z2, hix', hkk]); (repeat' (first | (with_reducible intro h) | (with_reducible refine And.intro (by omega) ?_) | (with_reducible refine exP (by omega) ?_) | (with_reducible apply And.intro))))
          all_goals try (exfalso; omega)
          all_goals (rw [take_drop_sub, List.drop_eq_getElem_cons hk]; rfl)
        · have hix' : ¬ 0 ≤ Go.Lib.indexByte symC (chars s)[k] := fun h => hm (hix.1 h)
          rw [if_neg hm, if_neg h2]
          refine gstart mxd i63 rfl (by simp) ?_; simp (maxSteps := 2000000) only [↓ S2, S2, vIte, ↓reduceIte, Int.reduceNe, Nat.reduceEqDiff, reduceCtorEq, Nat.reduceLeDiff, Nat.reduceAdd, Nat.reduceLT]
          ((try with_reducible refine mkQI ?_); (repeat ((first | (with_reducible refine mkQU ?_) | simp only [brGen]); try simp (maxSteps := 4000000) +contextual only [↓ S2, S2, vIte, ↓reduceIte, Int.reduceNe, Nat.reduceEqDiff, reduceCtorEq, Nat.reduceLeDiff, Nat.reduceAdd, Nat.reduceLT, hget_c, hset_c, hdel_c, neN, neA_cons, neA_nil, ])); (try simp +contextual (disch := omega) only [Z2, ]); (repeat' (first | (with_reducible intro h) | (with_reducible refine And.intro (by omega) ?_) | (with_reducible refine exP (by omega) ?_) | (with_reducible apply And.intro))))
          refine callS.eq (w96 _) ?_
          ((try with_reducible refine mkQI ?_); (repeat ((first | (with_reducible refine mkQU ?_) | simp only [brGen]); try simp (maxSteps := 4000000) +contextual only [↓ S2, S2, vIte, ↓reduceIte, Int.reduceNe, Nat.reduceEqDiff, reduceCtorEq, Nat.reduceLeDiff, Nat.reduceAdd, Nat.reduceLT, hget_c, hset_c, hdel_c, neN, neA_cons, neA_nil, hl'])); (try simp +contextual (disch := omega) only [Z2, hl']); (repeat' (first | (with_reducible intro h) | (with_reducible refine And.intro (by omega) ?_) | (with_reducible refine exP (by omega) ?_) | (with_reducible apply And.intro))))
          refine callS.eq (w97 _) ?_
          ((try with_reducible refine mkQI ?_); (repeat ((first | (with_reducible refine mkQU ?_) | simp only [brGen]); try simp (maxSteps := 4000000) +contextual only [↓ S2, S2, vIte, ↓reduceIte, Int.reduceNe, Nat.reduceEqDiff, reduceCtorEq, Nat.reduceLeDiff, Nat.reduceAdd, Nat.reduceLT, hget_c, hset_c, hdel_c, neN, neA_cons, neA_nil, hd', htk])); (try simp +contextual (disch := omega) only [Z2, hd', htk]); (repeat' (first | (with_reducible intro h) | (with_reducible refine And.intro (by omega) ?_) | (with_reducible refine exP (by omega) ?_) | (with_reducible apply And.intro))))
          all_goals try (exfalso; omega)
          refine callS.eq hp ?_
          ((try with_reducible refine mkQI ?_); (repeat ((first | (with_reducible refine mkQU ?_) | simp only [brGen]); try simp (maxSteps := 4000000) +contextual only [↓ S2, S2, vIte, ↓reduceIte, Int.reduceNe, Nat.reduceEqDiff, reduceCtorEq, Nat.reduceLeDiff, Nat.reduceAdd, Nat.reduceLT, hget_c, hset_c, hdel_c, neN, neA_cons, neA_nil, ])); (try simp +contextual (disch := omega) only [Z2, ]); (repeat' (first | (with_reducible intro h) | (with_reducible refine And.intro (by omega) ?_) | (with_reducible refine exP (by omega) ?_) | (with_reducible apply And.intro))))
          refine callS.eq (w100 ⟨#[40, 41, 123, 125, 44, 46, 36, 43, 45, 42, 60, 124, 38, 92]⟩ _) ?_
          rw [show chars ⟨#[40, 41, 123, 125, 44, 46, 36, 43, 45, 42, 60, 124, 38, 92]⟩ = symC from rfl]
          ((try with_reducible refine mkQI ?_); (repeat ((first | (with_reducible refine mkQU ?_) | simp only [brGen]); try simp (maxSteps := 4000000) +contextual only [↓ S2, S2, vIte, ↓reduceIte, Int.reduceNe, Nat.reduceEqDiff, reduceCtorEq, Nat.reduceLeDiff, Nat.reduceAdd, Nat.reduceLT, hget_c, hset_c, hdel_c, neN, neA_cons, neA_nil, hix'])); (try simp +contextual (disch := omega) only [Z2, hix']); (repeat' (first | (with_reducible intro h) | (with_reducible refine And.intro (by omega) ?_) | (with_reducible refine exP (by omega) ?_) | (with_reducible apply And.intro))))
          all_goals try (exfalso; omega)
          all_goals rfl
end Go.Proofs.YtkmedfejmndmjaaGreatDoor

namespace Go.Proofs.YtkmedfejmndmjaaGreatDoor
open Go.Gh
set_option maxRecDepth 20000
set_option linter.unusedSimpArgs false
set_option linter.unusedVariables false
open Go.Lib
set_option maxHeartbeats 4000000 in
theorem p33 (s : ByteArray) (hs : (chars s).length ≤ 1048576) : PureT Tryz.prog (tabE 1 3) 33 [T s] (· = .tup [TkS (tokz (chars s)).1, I (tokz (chars s)).2]) := by
  have hsz : s.size ≤ 1048576 := by rw [size_chars]; exact hs
  refine PureT.bor ?_
  change GCalls _ _ _ [(7, 1000000, []), (15, 1000001, [])] _
  by_cases hl : 160 < (chars s).length
  · have e : tokz (chars s) = ([], 160) := by unfold tokz; rw [if_pos hl]
    rw [e]
    refine gstart mxd i33 rfl (by simp) ?_; simp (maxSteps := 2000000) only [↓ S2, S2, vIte, ↓reduceIte, Int.reduceNe, Nat.reduceEqDiff, reduceCtorEq, Nat.reduceLeDiff, Nat.reduceAdd, Nat.reduceLT]
    ((try with_reducible refine mkQI ?_); (repeat ((first | (with_reducible refine mkQU ?_) | simp only [brGen]); try simp (maxSteps := 4000000) +contextual only [↓ S2, S2, vIte, ↓reduceIte, Int.reduceNe, Nat.reduceEqDiff, reduceCtorEq, Nat.reduceLeDiff, Nat.reduceAdd, Nat.reduceLT, hget_c, hset_c, hdel_c, neN, neA_cons, neA_nil, hl])); (try simp +contextual (disch := omega) only [Z2, hl]); (repeat' (first | (with_reducible intro h) | (with_reducible refine And.intro (by omega) ?_) | (with_reducible refine exP (by omega) ?_) | (with_reducible apply And.intro))))
    all_goals try (exfalso; omega)
    exact .tup (.cons .nil (.cons .refl .nil))
  · have e : tokz (chars s) = tokL (chars s) ((chars s).length + 1) 0 [] := by unfold tokz; rw [if_neg hl]
    refine gstart mxd i33 rfl (by simp) ?_; simp (maxSteps := 2000000) only [↓ S2, S2, vIte, ↓reduceIte, Int.reduceNe, Nat.reduceEqDiff, reduceCtorEq, Nat.reduceLeDiff, Nat.reduceAdd, Nat.reduceLT]
    ((try with_reducible refine mkQI ?_); (repeat ((first | (with_reducible refine mkQU ?_) | simp only [brGen]); try simp (maxSteps := 4000000) +contextual only [↓ S2, S2, vIte, ↓reduceIte, Int.reduceNe, Nat.reduceEqDiff, reduceCtorEq, Nat.reduceLeDiff, Nat.reduceAdd, Nat.reduceLT, hget_c, hset_c, hdel_c, neN, neA_cons, neA_nil, hl])); (try simp +contextual (disch := omega) only [Z2, hl]); (repeat' (first | (with_reducible intro h) | (with_reducible refine And.intro (by omega) ?_) | (with_reducible refine exP (by omega) ?_) | (with_reducible apply And.intro))))
    all_goals try (exfalso; omega)
    rename_i r
    refine ploop mxd (ι := { x : Nat × Nat × List Go.Gh.Tok // x.2.1 ≤ (chars s).length ∧ x.2.2.length ≤ 80 ∧ tokL (chars s) ((chars s).length + 1) x.2.1 x.2.2 = tokz (chars s) }) (fun x => [(0, T s), (4, .own x.1.1 4 0 x.1.2.2.length), (5, I x.1.2.1)]) (fun x => [(x.1.1, 4, x.1.2.2.map Tk), (7, 1000000, []), (15, 1000001, [])]) (fun x => (chars s).length - x.1.2.1) ⟨(r, 0, []), by simp [e]⟩ (by simp [E2]) (by simp [subH, hget, names, *]) ?_
    rintro ⟨⟨q, i, out⟩, hi, ho, ht⟩ hn
    dsimp only at hi ho ht hn ⊢
    have hn0 := hn
    (replace hn0 := hn0; simp only [neH_cons, neH_nil, neA_cons, neA_nil, and_true, true_and] at hn0)
    rw [tokL_succ] at ht
    rcases Nat.lt_or_ge i (chars s).length with hlt | hge
    · rw [dif_pos hlt] at ht
      by_cases h32 : (chars s)[i] = 32
      · have h32' : ((chars s)[i].toNat : Int) = 32 := by rw [h32]; rfl
        rw [if_pos h32] at ht
        ((try with_reducible refine mkQI ?_); (repeat ((first | (with_reducible refine mkQU ?_) | simp only [brGen]); try simp (maxSteps := 4000000) +contextual only [↓ S2, S2, vIte, ↓reduceIte, Int.reduceNe, Nat.reduceEqDiff, reduceCtorEq, Nat.reduceLeDiff, Nat.reduceAdd, Nat.reduceLT, hget_c, hset_c, hdel_c, neN, neA_cons, neA_nil, hlt, h32'])); (try simp +contextual (disch := omega) only [Z2, hlt, h32']); (repeat' (first | (with_reducible intro h) | (with_reducible refine And.intro (by omega) ?_) | (with_reducible refine exP (by omega) ?_) | (with_reducible apply And.intro))))
        refine px ⟨(q, i + 1, out), by dsimp only; omega, ho, ?_⟩ (by dsimp only; omega) (by simp [E2]) (by simp [subH, hget, names, *])
        dsimp only
        rw [← ht]
        exact tokL_fuel _ _ _ _ (by omega) (by omega) (by omega)
      · have h32' : ¬ ((chars s)[i].toNat : Int) = 32 := fun h => h32 ((u8_eq _ _).2 h)
        rw [if_neg h32] at ht
        have hle := tokN_le (l := chars s) (k := i) hi
        by_cases h0 : (tokN (chars s) i).2 = 0
        · rw [if_pos (.inl h0)] at ht
          ((try with_reducible refine mkQI ?_); (repeat ((first | (with_reducible refine mkQU ?_) | simp only [brGen]); try simp (maxSteps := 4000000) +contextual only [↓ S2, S2, vIte, ↓reduceIte, Int.reduceNe, Nat.reduceEqDiff, reduceCtorEq, Nat.reduceLeDiff, Nat.reduceAdd, Nat.reduceLT, hget_c, hset_c, hdel_c, neN, neA_cons, neA_nil, hlt, h32'])); (try simp +contextual (disch := omega) only [Z2, hlt, h32']); (repeat' (first | (with_reducible intro h) | (with_reducible refine And.intro (by omega) ?_) | (with_reducible refine exP (by omega) ?_) | (with_reducible apply And.intro))))
          refine callS.eqT (p63 s i hlt hs) (tabH_E (by decide)) (by simp [tabE]) ?_
          ((try with_reducible refine mkQI ?_); (repeat ((first | (with_reducible refine mkQU ?_) | simp only [brGen]); try simp (maxSteps := 4000000) +contextual only [↓ S2, S2, vIte, ↓reduceIte, Int.reduceNe, Nat.reduceEqDiff, reduceCtorEq, Nat.reduceLeDiff, Nat.reduceAdd, Nat.reduceLT, hget_c, hset_c, hdel_c, neN, neA_cons, neA_nil, h0])); (try simp +contextual (disch := omega) only [Z2, h0]); (repeat' (first | (with_reducible intro h) | (with_reducible refine And.intro (by omega) ?_) | (with_reducible refine exP (by omega) ?_) | (with_reducible apply And.intro))))
          all_goals try (exfalso; omega)
          all_goals (rw [← ht]; exact .tup (.cons .nil (.cons .refl .nil)))
        · have h0' : ¬ ((tokN (chars s) i).2 : Int) = 0 := by omega
          by_cases h8 : out.length = 80
          · have h8' : ((out.length : Int) = 80) := by omega
            rw [if_pos (.inr h8)] at ht
            ((try with_reducible refine mkQI ?_); (repeat ((first | (with_reducible refine mkQU ?_) | simp only [brGen]); try simp (maxSteps := 4000000) +contextual only [↓ S2, S2, vIte, ↓reduceIte, Int.reduceNe, Nat.reduceEqDiff, reduceCtorEq, Nat.reduceLeDiff, Nat.reduceAdd, Nat.reduceLT, hget_c, hset_c, hdel_c, neN, neA_cons, neA_nil, hlt, h32'])); (try simp +contextual (disch := omega) only [Z2, hlt, h32']); (repeat' (first | (with_reducible intro h) | (with_reducible refine And.intro (by omega) ?_) | (with_reducible refine exP (by omega) ?_) | (with_reducible apply And.intro))))
            refine callS.eqT (p63 s i hlt hs) (tabH_E (by decide)) (by simp [tabE]) ?_
            ((try with_reducible refine mkQI ?_); (repeat ((first | (with_reducible refine mkQU ?_) | simp only [brGen]); try simp (maxSteps := 4000000) +contextual only [↓ S2, S2, vIte, ↓reduceIte, Int.reduceNe, Nat.reduceEqDiff, reduceCtorEq, Nat.reduceLeDiff, Nat.reduceAdd, Nat.reduceLT, hget_c, hset_c, hdel_c, neN, neA_cons, neA_nil, h0', h8'])); (try simp +contextual (disch := omega) only [Z2, h0', h8']); (repeat' (first | (with_reducible intro h) | (with_reducible refine And.intro (by omega) ?_) | (with_reducible refine exP (by omega) ?_) | (with_reducible apply And.intro))))
            all_goals try (exfalso; omega)
            all_goals (rw [← ht]; exact .tup (.cons .nil (.cons .refl .nil)))
          · have h8' : ¬ ((out.length : Int) = 80) := by omega
            rw [if_neg (by intro h; rcases h with h | h <;> contradiction)] at ht
            ((try with_reducible refine mkQI ?_); (repeat ((first | (with_reducible refine mkQU ?_) | simp only [brGen]); try simp (maxSteps := 4000000) +contextual only [↓ S2, S2, vIte, ↓reduceIte, Int.reduceNe, Nat.reduceEqDiff, reduceCtorEq, Nat.reduceLeDiff, Nat.reduceAdd, Nat.reduceLT, hget_c, hset_c, hdel_c, neN, neA_cons, neA_nil, hlt, h32'])); (try simp +contextual (disch := omega) only [Z2, hlt, h32']); (repeat' (first | (with_reducible intro h) | (with_reducible refine And.intro (by omega) ?_) | (with_reducible refine exP (by omega) ?_) | (with_reducible apply And.intro))))
            refine callS.eqT (p63 s i hlt hs) (tabH_E (by decide)) (by simp [tabE]) ?_
            ((try with_reducible refine mkQI ?_); (repeat ((first | (with_reducible refine mkQU ?_) | simp only [brGen]); try simp (maxSteps := 4000000) +contextual only [↓ S2, S2, vIte, ↓reduceIte, Int.reduceNe, Nat.reduceEqDiff, reduceCtorEq, Nat.reduceLeDiff, Nat.reduceAdd, Nat.reduceLT, hget_c, hset_c, hdel_c, neN, neA_cons, neA_nil, h0', h8', List.length_map])); (try simp +contextual (disch := omega) only [Z2, h0', h8', List.length_map]); (repeat' (first | (with_reducible intro h) | (with_reducible refine And.intro (by omega) ?_) | (with_reducible refine exP (by omega) ?_) | (with_reducible apply And.intro))))
            all_goals try (exfalso; omega)
            all_goals first
              | omega
              | skip
            rename_i r1 r2
            refine px ⟨(r2, i + (tokN (chars s) i).2, out ++ [(tokN (chars s) i).1]), by dsimp only; omega, by simp; omega, ?_⟩ (by dsimp only; omega) (by simp [E2]) (by simp [subH, hget, names, List.take_of_length_le, *])
            dsimp only
            rw [← ht]
            exact tokL_fuel _ _ _ _ (by omega) (by omega) (by omega)
    · rw [dif_neg (by omega)] at ht
      have hge' : ¬ i < (chars s).length := by omega
      ((try with_reducible refine mkQI ?_); (repeat ((first | (with_reducible refine mkQU ?_) | simp only [brGen]); try simp (maxSteps := 4000000) +contextual only [↓ S2, S2, vIte, ↓reduceIte, Int.reduceNe, Nat.reduceEqDiff, reduceCtorEq, Nat.reduceLeDiff, Nat.reduceAdd, Nat.reduceLT, hget_c, hset_c, hdel_c, neN, neA_cons, neA_nil, hge'])); (try simp +contextual (disch := omega) only [Z2, hge']); (repeat' (first | (with_reducible intro h) | (with_reducible refine And.intro (by omega) ?_) | (with_reducible refine exP (by omega) ?_) | (with_reducible apply And.intro))))
      all_goals try (exfalso; omega)
      all_goals (rw [← ht]; exact .tup (.cons (Bor.seenT hget_new rfl) (.cons .refl .nil)))
end Go.Proofs.YtkmedfejmndmjaaGreatDoor

namespace Go.Proofs.YtkmedfejmndmjaaGreatDoor
open Go.Gh
set_option maxRecDepth 20000
set_option linter.unusedSimpArgs false
set_option linter.unusedVariables false
open Go.Lib
theorem w123 (t : Go.Gh.Tok) (w : ByteArray) : Pure Tryz.prog 123 [Tk t, T w] (· = B (isW t w)) := by
  refine gstart mxd i123 rfl (by simp) ?_; simp (maxSteps := 2000000) only [↓ S2, S2, vIte, ↓reduceIte, Int.reduceNe, Nat.reduceEqDiff, reduceCtorEq, Nat.reduceLeDiff, Nat.reduceAdd, Nat.reduceLT]
  ((try with_reducible refine mkQI ?_); (repeat ((first | (with_reducible refine mkQU ?_) | simp only [brGen]); try simp (maxSteps := 4000000) +contextual only [↓ S2, S2, vIte, ↓reduceIte, Int.reduceNe, Nat.reduceEqDiff, reduceCtorEq, Nat.reduceLeDiff, Nat.reduceAdd, Nat.reduceLT, hget_c, hset_c, hdel_c, neN, neA_cons, neA_nil, ])); (try simp +contextual (disch := omega) only [Z2, ]); (repeat' (first | (with_reducible intro h) | (with_reducible refine And.intro (by omega) ?_) | (with_reducible refine exP (by omega) ?_) | (with_reducible apply And.intro))))
  all_goals first | rfl | (simp_all [isW]; done)
set_option maxHeartbeats 4000000 in
theorem w101 (ts : List Go.Gh.Tok) (hl : ts.length ≤ 80) (i : Nat) (hi : i ≤ ts.length) (b : Bool) (w : ByteArray) (rp : Nat) (H : GH) (hr : hget H rp = some (3, [PaG ts i b])) :
    GCalls Tryz.prog 101 [.ptr rp 3 0 0, T w] H (fun g H' => g = B (!b && sees ts i w) ∧ H' = H) := by
  cases b with
  | true =>
    refine gstart mxd i101 rfl (by simp) ?_; simp (maxSteps := 2000000) only [↓ S2, S2, vIte, ↓reduceIte, Int.reduceNe, Nat.reduceEqDiff, reduceCtorEq, Nat.reduceLeDiff, Nat.reduceAdd, Nat.reduceLT]
    ((try with_reducible refine mkQI ?_); (repeat ((first | (with_reducible refine mkQU ?_) | simp only [brGen]); try simp (maxSteps := 4000000) +contextual only [↓ S2, S2, vIte, ↓reduceIte, Int.reduceNe, Nat.reduceEqDiff, reduceCtorEq, Nat.reduceLeDiff, Nat.reduceAdd, Nat.reduceLT, hget_c, hset_c, hdel_c, neN, neA_cons, neA_nil, hr])); (try simp +contextual (disch := omega) only [Z2, hr]); (repeat' (first | (with_reducible intro h) | (with_reducible refine And.intro (by omega) ?_) | (with_reducible refine exP (by omega) ?_) | (with_reducible apply And.intro))))
    all_goals rfl
  | false =>
    rcases Nat.lt_or_ge i ts.length with h | h
    · have e : sees ts i w = isW ts[i] w := by unfold sees; rw [decide_eq_true h, getD_lt h]; rfl
      rw [e]
      refine gstart mxd i101 rfl (by simp) ?_; simp (maxSteps := 2000000) only [↓ S2, S2, vIte, ↓reduceIte, Int.reduceNe, Nat.reduceEqDiff, reduceCtorEq, Nat.reduceLeDiff, Nat.reduceAdd, Nat.reduceLT]
      ((try with_reducible refine mkQI ?_); (repeat ((first | (with_reducible refine mkQU ?_) | simp only [brGen]); try simp (maxSteps := 4000000) +contextual only [↓ S2, S2, vIte, ↓reduceIte, Int.reduceNe, Nat.reduceEqDiff, reduceCtorEq, Nat.reduceLeDiff, Nat.reduceAdd, Nat.reduceLT, hget_c, hset_c, hdel_c, neN, neA_cons, neA_nil, hr, h])); (try simp +contextual (disch := omega) only [Z2, hr, h]); (repeat' (first | (with_reducible intro h) | (with_reducible refine And.intro (by omega) ?_) | (with_reducible refine exP (by omega) ?_) | (with_reducible apply And.intro))))
      refine callS.eq (w123 _ _) ?_
      ((try with_reducible refine mkQI ?_); (repeat ((first | (with_reducible refine mkQU ?_) | simp only [brGen]); try simp (maxSteps := 4000000) +contextual only [↓ S2, S2, vIte, ↓reduceIte, Int.reduceNe, Nat.reduceEqDiff, reduceCtorEq, Nat.reduceLeDiff, Nat.reduceAdd, Nat.reduceLT, hget_c, hset_c, hdel_c, neN, neA_cons, neA_nil, ])); (try simp +contextual (disch := omega) only [Z2, ]); (repeat' (first | (with_reducible intro h) | (with_reducible refine And.intro (by omega) ?_) | (with_reducible refine exP (by omega) ?_) | (with_reducible apply And.intro))))
      all_goals first | rfl | exact ⟨rfl, rfl⟩
    · have e : sees ts i w = false := by unfold sees; rw [decide_eq_false (by omega)]; rfl
      have h' : ¬ i < ts.length := by omega
      rw [e]
      refine gstart mxd i101 rfl (by simp) ?_; simp (maxSteps := 2000000) only [↓ S2, S2, vIte, ↓reduceIte, Int.reduceNe, Nat.reduceEqDiff, reduceCtorEq, Nat.reduceLeDiff, Nat.reduceAdd, Nat.reduceLT]
      ((try with_reducible refine mkQI ?_); (repeat ((first | (with_reducible refine mkQU ?_) | simp only [brGen]); try simp (maxSteps := 4000000) +contextual only [↓ S2, S2, vIte, ↓reduceIte, Int.reduceNe, Nat.reduceEqDiff, reduceCtorEq, Nat.reduceLeDiff, Nat.reduceAdd, Nat.reduceLT, hget_c, hset_c, hdel_c, neN, neA_cons, neA_nil, hr, h'])); (try simp +contextual (disch := omega) only [Z2, hr, h']); (repeat' (first | (with_reducible intro h) | (with_reducible refine And.intro (by omega) ?_) | (with_reducible refine exP (by omega) ?_) | (with_reducible apply And.intro))))
      all_goals try (exfalso; omega)
      all_goals first | rfl | exact ⟨rfl, rfl⟩
set_option maxHeartbeats 4000000 in
theorem w64 (ts : List Go.Gh.Tok) (hl : ts.length ≤ 80) (i : Nat) (hi : i ≤ ts.length) (b : Bool) (w : ByteArray) (rp : Nat) (H : GH) (hr : hget H rp = some (3, [PaG ts i b])) :
    GCalls Tryz.prog 64 [.ptr rp 3 0 0, T w] H (fun g H' => g = B (!b && sees ts i w) ∧ H' = hset H rp [PaG ts (if (!b && sees ts i w) = true then i + 1 else i) b]) := by
  have h1 := w101 ts hl i hi b w rp H hr
  generalize hq : (!b && sees ts i w) = q at *
  cases q with
  | true =>
    refine gstart mxd i64 rfl (by simp) ?_; simp (maxSteps := 2000000) only [↓ S2, S2, vIte, ↓reduceIte, Int.reduceNe, Nat.reduceEqDiff, reduceCtorEq, Nat.reduceLeDiff, Nat.reduceAdd, Nat.reduceLT]
    ((try with_reducible refine mkQI ?_); (repeat ((first | (with_reducible refine mkQU ?_) | simp only [brGen]); try simp (maxSteps := 4000000) +contextual only [↓ S2, S2, vIte, ↓reduceIte, Int.reduceNe, Nat.reduceEqDiff, reduceCtorEq, Nat.reduceLeDiff, Nat.reduceAdd, Nat.reduceLT, hget_c, hset_c, hdel_c, neN, neA_cons, neA_nil, ])); (try simp +contextual (disch := omega) only [Z2, ]); (repeat' (first | (with_reducible intro h) | (with_reducible refine And.intro (by omega) ?_) | (with_reducible refine exP (by omega) ?_) | (with_reducible apply And.intro))))
    refine callS.of h1 ?_
    rintro _ _ ⟨rfl, rfl⟩ _
    ((try with_reducible refine mkQI ?_); (repeat ((first | (with_reducible refine mkQU ?_) | simp only [brGen]); try simp (maxSteps := 4000000) +contextual only [↓ S2, S2, vIte, ↓reduceIte, Int.reduceNe, Nat.reduceEqDiff, reduceCtorEq, Nat.reduceLeDiff, Nat.reduceAdd, Nat.reduceLT, hget_c, hset_c, hdel_c, neN, neA_cons, neA_nil, hr])); (try simp +contextual (disch := omega) only [Z2, hr]); (repeat' (first | (with_reducible intro h) | (with_reducible refine And.intro (by omega) ?_) | (with_reducible refine exP (by omega) ?_) | (with_reducible apply And.intro))))
    all_goals first | rfl | exact ⟨rfl, rfl⟩
  | false =>
    refine gstart mxd i64 rfl (by simp) ?_; simp (maxSteps := 2000000) only [↓ S2, S2, vIte, ↓reduceIte, Int.reduceNe, Nat.reduceEqDiff, reduceCtorEq, Nat.reduceLeDiff, Nat.reduceAdd, Nat.reduceLT]
    ((try with_reducible refine mkQI ?_); (repeat ((first | (with_reducible refine mkQU ?_) | simp only [brGen]); try simp (maxSteps := 4000000) +contextual only [↓ S2, S2, vIte, ↓reduceIte, Int.reduceNe, Nat.reduceEqDiff, reduceCtorEq, Nat.reduceLeDiff, Nat.reduceAdd, Nat.reduceLT, hget_c, hset_c, hdel_c, neN, neA_cons, neA_nil, ])); (try simp +contextual (disch := omega) only [Z2, ]); (repeat' (first | (with_reducible intro h) | (with_reducible refine And.intro (by omega) ?_) | (with_reducible refine exP (by omega) ?_) | (with_reducible apply And.intro))))
    refine callS.of h1 ?_
    rintro _ _ ⟨rfl, rfl⟩ _
    ((try with_reducible refine mkQI ?_); (repeat ((first | (with_reducible refine mkQU ?_) | simp only [brGen]); try simp (maxSteps := 4000000) +contextual only [↓ S2, S2, vIte, ↓reduceIte, Int.reduceNe, Nat.reduceEqDiff, reduceCtorEq, Nat.reduceLeDiff, Nat.reduceAdd, Nat.reduceLT, hget_c, hset_c, hdel_c, neN, neA_cons, neA_nil, hr])); (try simp +contextual (disch := omega) only [Z2, hr]); (repeat' (first | (with_reducible intro h) | (with_reducible refine And.intro (by omega) ?_) | (with_reducible refine exP (by omega) ?_) | (with_reducible apply And.intro))))
    all_goals exact (hset_self hr).symm
set_option maxHeartbeats 4000000 in
theorem w65 (ts : List Go.Gh.Tok) (hl : ts.length ≤ 80) (i : Nat) (hi : i ≤ ts.length) (b : Bool) (w : ByteArray) (rp : Nat) (H : GH) (hr : hget H rp = some (3, [PaG ts i b])) :
    GCalls Tryz.prog 65 [.ptr rp 3 0 0, T w] H (fun _ H' => H' = hset H rp [PaG ts (frm b (fun i => takeW ts i w) i).at (frm b (fun i => takeW ts i w) i).err]) := by
  have h1 := w64 ts hl i hi b w rp H hr
  have h2 : ∀ fs, hget (hset H rp fs) rp = some (3, fs) := fun fs => hget_set hr
  cases b with
  | true =>
    refine gstart mxd i65 rfl (by simp) ?_; simp (maxSteps := 2000000) only [↓ S2, S2, vIte, ↓reduceIte, Int.reduceNe, Nat.reduceEqDiff, reduceCtorEq, Nat.reduceLeDiff, Nat.reduceAdd, Nat.reduceLT]
    ((try with_reducible refine mkQI ?_); (repeat ((first | (with_reducible refine mkQU ?_) | simp only [brGen]); try simp (maxSteps := 4000000) +contextual only [↓ S2, S2, vIte, ↓reduceIte, Int.reduceNe, Nat.reduceEqDiff, reduceCtorEq, Nat.reduceLeDiff, Nat.reduceAdd, Nat.reduceLT, hget_c, hset_c, hdel_c, neN, neA_cons, neA_nil, ])); (try simp +contextual (disch := omega) only [Z2, ]); (repeat' (first | (with_reducible intro h) | (with_reducible refine And.intro (by omega) ?_) | (with_reducible refine exP (by omega) ?_) | (with_reducible apply And.intro))))
    refine callS.of h1 ?_
    rintro _ _ ⟨rfl, rfl⟩ _
    ((try with_reducible refine mkQI ?_); (repeat ((first | (with_reducible refine mkQU ?_) | simp only [brGen]); try simp (maxSteps := 4000000) +contextual only [↓ S2, S2, vIte, ↓reduceIte, Int.reduceNe, Nat.reduceEqDiff, reduceCtorEq, Nat.reduceLeDiff, Nat.reduceAdd, Nat.reduceLT, hget_c, hset_c, hdel_c, neN, neA_cons, neA_nil, Bool.not_true, Bool.false_and, h2, hset_set])); (try simp +contextual (disch := omega) only [Z2, Bool.not_true, Bool.false_and, h2, hset_set]); (repeat' (first | (with_reducible intro h) | (with_reducible refine And.intro (by omega) ?_) | (with_reducible refine exP (by omega) ?_) | (with_reducible apply And.intro))))
    all_goals rfl
  | false =>
    cases hq : sees ts i w with
    | true =>
      rw [hq] at h1
      rw [frm_f, take_t hq]
      refine gstart mxd i65 rfl (by simp) ?_; simp (maxSteps := 2000000) only [↓ S2, S2, vIte, ↓reduceIte, Int.reduceNe, Nat.reduceEqDiff, reduceCtorEq, Nat.reduceLeDiff, Nat.reduceAdd, Nat.reduceLT]
      ((try with_reducible refine mkQI ?_); (repeat ((first | (with_reducible refine mkQU ?_) | simp only [brGen]); try simp (maxSteps := 4000000) +contextual only [↓ S2, S2, vIte, ↓reduceIte, Int.reduceNe, Nat.reduceEqDiff, reduceCtorEq, Nat.reduceLeDiff, Nat.reduceAdd, Nat.reduceLT, hget_c, hset_c, hdel_c, neN, neA_cons, neA_nil, ])); (try simp +contextual (disch := omega) only [Z2, ]); (repeat' (first | (with_reducible intro h) | (with_reducible refine And.intro (by omega) ?_) | (with_reducible refine exP (by omega) ?_) | (with_reducible apply And.intro))))
      refine callS.of h1 ?_
      rintro _ _ ⟨rfl, rfl⟩ _
      ((try with_reducible refine mkQI ?_); (repeat ((first | (with_reducible refine mkQU ?_) | simp only [brGen]); try simp (maxSteps := 4000000) +contextual only [↓ S2, S2, vIte, ↓reduceIte, Int.reduceNe, Nat.reduceEqDiff, reduceCtorEq, Nat.reduceLeDiff, Nat.reduceAdd, Nat.reduceLT, hget_c, hset_c, hdel_c, neN, neA_cons, neA_nil, ])); (try simp +contextual (disch := omega) only [Z2, ]); (repeat' (first | (with_reducible intro h) | (with_reducible refine And.intro (by omega) ?_) | (with_reducible refine exP (by omega) ?_) | (with_reducible apply And.intro))))
      all_goals rfl
    | false =>
      rw [hq] at h1
      rw [frm_f, take_f hq]
      refine gstart mxd i65 rfl (by simp) ?_; simp (maxSteps := 2000000) only [↓ S2, S2, vIte, ↓reduceIte, Int.reduceNe, Nat.reduceEqDiff, reduceCtorEq, Nat.reduceLeDiff, Nat.reduceAdd, Nat.reduceLT]
      ((try with_reducible refine mkQI ?_); (repeat ((first | (with_reducible refine mkQU ?_) | simp only [brGen]); try simp (maxSteps := 4000000) +contextual only [↓ S2, S2, vIte, ↓reduceIte, Int.reduceNe, Nat.reduceEqDiff, reduceCtorEq, Nat.reduceLeDiff, Nat.reduceAdd, Nat.reduceLT, hget_c, hset_c, hdel_c, neN, neA_cons, neA_nil, ])); (try simp +contextual (disch := omega) only [Z2, ]); (repeat' (first | (with_reducible intro h) | (with_reducible refine And.intro (by omega) ?_) | (with_reducible refine exP (by omega) ?_) | (with_reducible apply And.intro))))
      refine callS.of h1 ?_
      rintro _ _ ⟨rfl, rfl⟩ _
      ((try with_reducible refine mkQI ?_); (repeat ((first | (with_reducible refine mkQU ?_) | simp only [brGen]); try simp (maxSteps := 4000000) +contextual only [↓ S2, S2, vIte, ↓reduceIte, Int.reduceNe, Nat.reduceEqDiff, reduceCtorEq, Nat.reduceLeDiff, Nat.reduceAdd, Nat.reduceLT, hget_c, hset_c, hdel_c, neN, neA_cons, neA_nil, h2, hset_set])); (try simp +contextual (disch := omega) only [Z2, h2, hset_set]); (repeat' (first | (with_reducible intro h) | (with_reducible refine And.intro (by omega) ?_) | (with_reducible refine exP (by omega) ?_) | (with_reducible apply And.intro))))
      all_goals rfl
theorem w88 (n : Int) : Pure Tryz.prog 88 [I n] (· = I (opLv n)) := by
  refine gstart mxd i88 rfl (by simp) ?_; simp (maxSteps := 2000000) only [↓ S2, S2, vIte, ↓reduceIte, Int.reduceNe, Nat.reduceEqDiff, reduceCtorEq, Nat.reduceLeDiff, Nat.reduceAdd, Nat.reduceLT]
  ((try with_reducible refine mkQI ?_); (repeat ((first | (with_reducible refine mkQU ?_) | simp only [brGen]); try simp (maxSteps := 4000000) +contextual only [↓ S2, S2, vIte, ↓reduceIte, Int.reduceNe, Nat.reduceEqDiff, reduceCtorEq, Nat.reduceLeDiff, Nat.reduceAdd, Nat.reduceLT, hget_c, hset_c, hdel_c, neN, neA_cons, neA_nil, ])); (try simp +contextual (disch := omega) only [Z2, ]); (repeat' (first | (with_reducible intro h) | (with_reducible refine And.intro (by omega) ?_) | (with_reducible refine exP (by omega) ?_) | (with_reducible apply And.intro))))
  all_goals first | (unfold opLv; simp [*]; done) | (unfold opLv; rw [if_neg (by omega), if_neg (by omega), if_neg (by omega)]; rfl)
theorem w128 (s : ByteArray) : Pure Tryz.prog 128 [T s] (· = I (funO s)) := by
  refine gstart mxd i128 rfl (by simp) ?_; simp (maxSteps := 2000000) only [↓ S2, S2, vIte, ↓reduceIte, Int.reduceNe, Nat.reduceEqDiff, reduceCtorEq, Nat.reduceLeDiff, Nat.reduceAdd, Nat.reduceLT]
  ((try with_reducible refine mkQI ?_); (repeat ((first | (with_reducible refine mkQU ?_) | simp only [brGen]); try simp (maxSteps := 4000000) +contextual only [↓ S2, S2, vIte, ↓reduceIte, Int.reduceNe, Nat.reduceEqDiff, reduceCtorEq, Nat.reduceLeDiff, Nat.reduceAdd, Nat.reduceLT, hget_c, hset_c, hdel_c, neN, neA_cons, neA_nil, ])); (try simp +contextual (disch := omega) only [Z2, ]); (repeat' (first | (with_reducible intro h) | (with_reducible refine And.intro (by omega) ?_) | (with_reducible refine exP (by omega) ?_) | (with_reducible apply And.intro))))
  all_goals first | (subst_vars; rfl) | (unfold funO wMax wMin wHas wWith; simp [*]; done) | trace_state
theorem w124 (n k : Int) : Pure Tryz.prog 124 [I n, I k] (· = ExN (conE n k)) := by
  refine gstart mxd i124 rfl (by simp) ?_; simp (maxSteps := 2000000) only [↓ S2, S2, vIte, ↓reduceIte, Int.reduceNe, Nat.reduceEqDiff, reduceCtorEq, Nat.reduceLeDiff, Nat.reduceAdd, Nat.reduceLT]
  ((try with_reducible refine mkQI ?_); (repeat ((first | (with_reducible refine mkQU ?_) | simp only [brGen]); try simp (maxSteps := 4000000) +contextual only [↓ S2, S2, vIte, ↓reduceIte, Int.reduceNe, Nat.reduceEqDiff, reduceCtorEq, Nat.reduceLeDiff, Nat.reduceAdd, Nat.reduceLT, hget_c, hset_c, hdel_c, neN, neA_cons, neA_nil, ])); (try simp +contextual (disch := omega) only [Z2, ]); (repeat' (first | (with_reducible intro h) | (with_reducible refine And.intro (by omega) ?_) | (with_reducible refine exP (by omega) ?_) | (with_reducible apply And.intro))))
  all_goals first | rfl | trace_state
end Go.Proofs.YtkmedfejmndmjaaGreatDoor

namespace Go.Proofs.YtkmedfejmndmjaaGreatDoor
open Go.Gh
set_option maxRecDepth 20000
set_option linter.unusedSimpArgs false
set_option linter.unusedVariables false
open Go.Lib
set_option maxHeartbeats 4000000 in
theorem w103 (t : Go.Gh.Tok) (lv : Nat) (h1 : 1 ≤ lv) (h3 : lv ≤ 3) : Pure Tryz.prog 103 [Tk t, I lv] (· = I (if t.kind = 3 then opKy (3, 0, t.text) lv else 0)) := by
  have e1 : ((opLv 1 : Nat) : Int) = 2 := rfl
  have e2 : ((opLv 2 : Nat) : Int) = 2 := rfl
  have e3 : ((opLv 3 : Nat) : Int) = 3 := rfl
  have e6 : ((opLv 6 : Nat) : Int) = 2 := rfl
  have e7 : ((opLv 7 : Nat) : Int) = 3 := rfl
  have e8 : ((opLv 8 : Nat) : Int) = 2 := rfl
  have e9 : ((opLv 9 : Nat) : Int) = 1 := rfl
  have e10 : ((opLv 10 : Nat) : Int) = 1 := rfl
  by_cases hk : t.kind = 3
  · rw [if_pos hk]
    obtain ⟨l, hl⟩ : ∃ l : Int, l = lv := ⟨_, rfl⟩
    rw [← hl]
    have hl' : (l = 1 ∧ lv = 1) ∨ (l = 2 ∧ lv = 2) ∨ (l = 3 ∧ lv = 3) := by omega
    clear hl
    rcases hl' with ⟨rfl, rfl⟩ | ⟨rfl, rfl⟩ | ⟨rfl, rfl⟩
    all_goals
      refine gstart mxd i103 rfl (by simp) ?_; simp (maxSteps := 2000000) only [↓ S2, S2, vIte, ↓reduceIte, Int.reduceNe, Nat.reduceEqDiff, reduceCtorEq, Nat.reduceLeDiff, Nat.reduceAdd, Nat.reduceLT]
      ((try with_reducible refine mkQI ?_); (repeat ((first | (with_reducible refine mkQU ?_) | simp only [brGen]); try simp (maxSteps := 4000000) +contextual only [↓ S2, S2, vIte, ↓reduceIte, Int.reduceNe, Nat.reduceEqDiff, reduceCtorEq, Nat.reduceLeDiff, Nat.reduceAdd, Nat.reduceLT, hget_c, hset_c, hdel_c, neN, neA_cons, neA_nil, hk])); (try simp +contextual (disch := omega) only [Z2, hk]); (repeat' (first | (with_reducible intro h) | (with_reducible refine And.intro (by omega) ?_) | (with_reducible refine exP (by omega) ?_) | (with_reducible apply And.intro))))
      all_goals try (refine callS.eq (w88 _) ?_; ((try with_reducible refine mkQI ?_); (repeat ((first | (with_reducible refine mkQU ?_) | simp only [brGen]); try simp (maxSteps := 4000000) +contextual only [↓ S2, S2, vIte, ↓reduceIte, Int.reduceNe, Nat.reduceEqDiff, reduceCtorEq, Nat.reduceLeDiff, Nat.reduceAdd, Nat.reduceLT, hget_c, hset_c, hdel_c, neN, neA_cons, neA_nil, e1, e2, e3, e6, e7, e8, e9, e10])); (try simp +contextual (disch := omega) only [Z2, e1, e2, e3, e6, e7, e8, e9, e10]); (repeat' (first | (with_reducible intro h) | (with_reducible refine And.intro (by omega) ?_) | (with_reducible refine exP (by omega) ?_) | (with_reducible apply And.intro)))))
      all_goals (simp [opKy, isK, *]; done)
  · rw [if_neg hk]
    refine gstart mxd i103 rfl (by simp) ?_; simp (maxSteps := 2000000) only [↓ S2, S2, vIte, ↓reduceIte, Int.reduceNe, Nat.reduceEqDiff, reduceCtorEq, Nat.reduceLeDiff, Nat.reduceAdd, Nat.reduceLT]
    ((try with_reducible refine mkQI ?_); (repeat ((first | (with_reducible refine mkQU ?_) | simp only [brGen]); try simp (maxSteps := 4000000) +contextual only [↓ S2, S2, vIte, ↓reduceIte, Int.reduceNe, Nat.reduceEqDiff, reduceCtorEq, Nat.reduceLeDiff, Nat.reduceAdd, Nat.reduceLT, hget_c, hset_c, hdel_c, neN, neA_cons, neA_nil, hk])); (try simp +contextual (disch := omega) only [Z2, hk]); (repeat' (first | (with_reducible intro h) | (with_reducible refine And.intro (by omega) ?_) | (with_reducible refine exP (by omega) ?_) | (with_reducible apply And.intro))))
end Go.Proofs.YtkmedfejmndmjaaGreatDoor

namespace Go.Proofs.YtkmedfejmndmjaaGreatDoor
open Go.Gh
set_option maxRecDepth 20000
set_option linter.unusedSimpArgs false
set_option linter.unusedVariables false
open Go.Lib
set_option maxHeartbeats 4000000 in
theorem w67 (ts : List Go.Gh.Tok) (hl : ts.length ≤ 80) (ht : okTs ts) (i : Nat) (hi : i ≤ ts.length) (b : Bool) (lv : Nat) (h1 : 1 ≤ lv) (h3 : lv ≤ 3) (rp : Nat) (H : GH) (hr : hget H rp = some (3, [PaG ts i b])) :
    GCalls Tryz.prog 67 [.ptr rp 3 0 0, I lv] H (fun g H' => g = I (opB ts b i lv) ∧ H' = hset H rp [PaG ts (if opB ts b i lv ≠ 0 then i + 1 else i) b]) := by
  cases b with
  | true =>
    refine gstart mxd i67 rfl (by simp) ?_; simp (maxSteps := 2000000) only [↓ S2, S2, vIte, ↓reduceIte, Int.reduceNe, Nat.reduceEqDiff, reduceCtorEq, Nat.reduceLeDiff, Nat.reduceAdd, Nat.reduceLT]
    ((try with_reducible refine mkQI ?_); (repeat ((first | (with_reducible refine mkQU ?_) | simp only [brGen]); try simp (maxSteps := 4000000) +contextual only [↓ S2, S2, vIte, ↓reduceIte, Int.reduceNe, Nat.reduceEqDiff, reduceCtorEq, Nat.reduceLeDiff, Nat.reduceAdd, Nat.reduceLT, hget_c, hset_c, hdel_c, neN, neA_cons, neA_nil, hr])); (try simp +contextual (disch := omega) only [Z2, hr]); (repeat' (first | (with_reducible intro h) | (with_reducible refine And.intro (by omega) ?_) | (with_reducible refine exP (by omega) ?_) | (with_reducible apply And.intro))))
    all_goals first | exact (hset_self hr).symm | rfl
  | false =>
    rcases Nat.lt_or_ge i ts.length with h | hG
    · have hL : ¬ ts.length ≤ i := by omega
      have e := opB_lt ht h lv
      have hop := w103 ts[i] lv h1 h3
      rw [← e] at hop
      generalize opB ts false i lv = o at *
      by_cases h0 : o = 0
      · subst h0
        refine gstart mxd i67 rfl (by simp) ?_; simp (maxSteps := 2000000) only [↓ S2, S2, vIte, ↓reduceIte, Int.reduceNe, Nat.reduceEqDiff, reduceCtorEq, Nat.reduceLeDiff, Nat.reduceAdd, Nat.reduceLT]
        ((try with_reducible refine mkQI ?_); (repeat ((first | (with_reducible refine mkQU ?_) | simp only [brGen]); try simp (maxSteps := 4000000) +contextual only [↓ S2, S2, vIte, ↓reduceIte, Int.reduceNe, Nat.reduceEqDiff, reduceCtorEq, Nat.reduceLeDiff, Nat.reduceAdd, Nat.reduceLT, hget_c, hset_c, hdel_c, neN, neA_cons, neA_nil, hr, h, hL])); (try simp +contextual (disch := omega) only [Z2, hr, h, hL]); (repeat' (first | (with_reducible intro h) | (with_reducible refine And.intro (by omega) ?_) | (with_reducible refine exP (by omega) ?_) | (with_reducible apply And.intro))))
        refine callS.eq hop ?_
        ((try with_reducible refine mkQI ?_); (repeat ((first | (with_reducible refine mkQU ?_) | simp only [brGen]); try simp (maxSteps := 4000000) +contextual only [↓ S2, S2, vIte, ↓reduceIte, Int.reduceNe, Nat.reduceEqDiff, reduceCtorEq, Nat.reduceLeDiff, Nat.reduceAdd, Nat.reduceLT, hget_c, hset_c, hdel_c, neN, neA_cons, neA_nil, ])); (try simp +contextual (disch := omega) only [Z2, ]); (repeat' (first | (with_reducible intro h) | (with_reducible refine And.intro (by omega) ?_) | (with_reducible refine exP (by omega) ?_) | (with_reducible apply And.intro))))
        all_goals first | exact (hset_self hr).symm | rfl
      · rw [if_pos h0]
        refine gstart mxd i67 rfl (by simp) ?_; simp (maxSteps := 2000000) only [↓ S2, S2, vIte, ↓reduceIte, Int.reduceNe, Nat.reduceEqDiff, reduceCtorEq, Nat.reduceLeDiff, Nat.reduceAdd, Nat.reduceLT]
        ((try with_reducible refine mkQI ?_); (repeat ((first | (with_reducible refine mkQU ?_) | simp only [brGen]); try simp (maxSteps := 4000000) +contextual only [↓ S2, S2, vIte, ↓reduceIte, Int.reduceNe, Nat.reduceEqDiff, reduceCtorEq, Nat.reduceLeDiff, Nat.reduceAdd, Nat.reduceLT, hget_c, hset_c, hdel_c, neN, neA_cons, neA_nil, hr, h, hL])); (try simp +contextual (disch := omega) only [Z2, hr, h, hL]); (repeat' (first | (with_reducible intro h) | (with_reducible refine And.intro (by omega) ?_) | (with_reducible refine exP (by omega) ?_) | (with_reducible apply And.intro))))
        refine callS.eq hop ?_
        ((try with_reducible refine mkQI ?_); (repeat ((first | (with_reducible refine mkQU ?_) | simp only [brGen]); try simp (maxSteps := 4000000) +contextual only [↓ S2, S2, vIte, ↓reduceIte, Int.reduceNe, Nat.reduceEqDiff, reduceCtorEq, Nat.reduceLeDiff, Nat.reduceAdd, Nat.reduceLT, hget_c, hset_c, hdel_c, neN, neA_cons, neA_nil, h0, hr])); (try simp +contextual (disch := omega) only [Z2, h0, hr]); (repeat' (first | (with_reducible intro h) | (with_reducible refine And.intro (by omega) ?_) | (with_reducible refine exP (by omega) ?_) | (with_reducible apply And.intro))))
        all_goals rfl
    · have e : opB ts false i lv = 0 := opB_ge hG lv
      have h' : ¬ i < ts.length := by omega
      rw [e]
      refine gstart mxd i67 rfl (by simp) ?_; simp (maxSteps := 2000000) only [↓ S2, S2, vIte, ↓reduceIte, Int.reduceNe, Nat.reduceEqDiff, reduceCtorEq, Nat.reduceLeDiff, Nat.reduceAdd, Nat.reduceLT]
      ((try with_reducible refine mkQI ?_); (repeat ((first | (with_reducible refine mkQU ?_) | simp only [brGen]); try simp (maxSteps := 4000000) +contextual only [↓ S2, S2, vIte, ↓reduceIte, Int.reduceNe, Nat.reduceEqDiff, reduceCtorEq, Nat.reduceLeDiff, Nat.reduceAdd, Nat.reduceLT, hget_c, hset_c, hdel_c, neN, neA_cons, neA_nil, hr, h', hG])); (try simp +contextual (disch := omega) only [Z2, hr, h', hG]); (repeat' (first | (with_reducible intro h) | (with_reducible refine And.intro (by omega) ?_) | (with_reducible refine exP (by omega) ?_) | (with_reducible apply And.intro))))
      all_goals try (exfalso; omega)
      all_goals first | exact (hset_self hr).symm | rfl
end Go.Proofs.YtkmedfejmndmjaaGreatDoor

namespace Go.Proofs.YtkmedfejmndmjaaGreatDoor
open Go.Gh
set_option maxRecDepth 20000
set_option linter.unusedSimpArgs false
set_option linter.unusedVariables false
open Go.Lib
set_option maxHeartbeats 4000000 in
theorem w125 (ts : List Go.Gh.Tok) (hl : ts.length ≤ 80) (i : Nat) (hi : i ≤ ts.length) (b : Bool) (lo hh : Int) (rp : Nat) (H : GH) (hr : hget H rp = some (3, [PaG ts i b])) :
    GCalls Tryz.prog 125 [.ptr rp 3 0 0, I lo, I hh] H (fun g H' => g = I (PR.val 0 (frm b (fun i => numP ts i lo hh) i)) ∧ H' = hset H rp [PaG ts (frm b (fun i => numP ts i lo hh) i).at (frm b (fun i => numP ts i lo hh) i).err]) := by
  have h2 : ∀ fs, hget (hset H rp fs) rp = some (3, fs) := fun fs => hget_set hr
  cases b with
  | true =>
    refine gstart mxd i125 rfl (by simp) ?_; simp (maxSteps := 2000000) only [↓ S2, S2, vIte, ↓reduceIte, Int.reduceNe, Nat.reduceEqDiff, reduceCtorEq, Nat.reduceLeDiff, Nat.reduceAdd, Nat.reduceLT]
    ((try with_reducible refine mkQI ?_); (repeat ((first | (with_reducible refine mkQU ?_) | simp only [brGen]); try simp (maxSteps := 2000000) only [↓ S2, S2, vIte, ↓reduceIte, Int.reduceNe, Nat.reduceEqDiff, reduceCtorEq, Nat.reduceLeDiff, Nat.reduceAdd, Nat.reduceLT, hr])); (try simp +contextual (disch := omega) only [Z2, hr]); (repeat' (first | (with_reducible intro h) | (with_reducible refine And.intro (by omega) ?_) | (with_reducible refine exP (by omega) ?_) | (with_reducible apply And.intro))))
    all_goals first | rfl | exact ⟨rfl, rfl⟩
  | false =>
    rw [frm_f]
    rcases Nat.lt_or_ge i ts.length with h | hG
    · have hL : ¬ ts.length ≤ i := by omega
      have hx1 : ((i : Int) + 1 - 1) = (i : Int) := by omega
      by_cases hk : ts[i].kind = 2
      · have hkk : ((ts[i].kind = 2) = True) := eq_true hk
        by_cases hw : lo ≤ ts[i].num ∧ ts[i].num ≤ hh
        · have e : numP ts i lo hh = .ok ts[i].num (i + 1) := by unfold numP; rw [getD_lt h, if_pos ⟨h, hk, hw⟩]
          have hwd := decide_eq_true hw
          rw [e]
          refine gstart mxd i125 rfl (by simp) ?_; simp (maxSteps := 2000000) only [↓ S2, S2, vIte, ↓reduceIte, Int.reduceNe, Nat.reduceEqDiff, reduceCtorEq, Nat.reduceLeDiff, Nat.reduceAdd, Nat.reduceLT]
          ((try with_reducible refine mkQI ?_); (repeat ((first | (with_reducible refine mkQU ?_) | simp only [brGen]); try simp (maxSteps := 2000000) only [↓ S2, S2, vIte, ↓reduceIte, Int.reduceNe, Nat.reduceEqDiff, reduceCtorEq, Nat.reduceLeDiff, Nat.reduceAdd, Nat.reduceLT, hr, h, hL, hkk, decide_true, decide_false])); (try simp +contextual (disch := omega) only [Z2, hr, h, hL, hkk, decide_true, decide_false]); (repeat' (first | (with_reducible intro h) | (with_reducible refine And.intro (by omega) ?_) | (with_reducible refine exP (by omega) ?_) | (with_reducible apply And.intro))))
          refine callS.eq (w84 _ _ _) ?_
          ((try with_reducible refine mkQI ?_); (repeat ((first | (with_reducible refine mkQU ?_) | simp only [brGen]); try simp (maxSteps := 2000000) only [↓ S2, S2, vIte, ↓reduceIte, Int.reduceNe, Nat.reduceEqDiff, reduceCtorEq, Nat.reduceLeDiff, Nat.reduceAdd, Nat.reduceLT, hwd, hr, h, h2, hset_set, hx1])); (try simp +contextual (disch := omega) only [Z2, hwd, hr, h, h2, hset_set, hx1]); (repeat' (first | (with_reducible intro h) | (with_reducible refine And.intro (by omega) ?_) | (with_reducible refine exP (by omega) ?_) | (with_reducible apply And.intro))))
          all_goals first | rfl | exact ⟨rfl, rfl⟩ | trace_state
        · have e : numP ts i lo hh = .bad i := by unfold numP; rw [getD_lt h, if_neg (fun hc => hw ⟨hc.2.2.1, hc.2.2.2⟩)]
          have hwd := decide_eq_false hw
          rw [e]
          refine gstart mxd i125 rfl (by simp) ?_; simp (maxSteps := 2000000) only [↓ S2, S2, vIte, ↓reduceIte, Int.reduceNe, Nat.reduceEqDiff, reduceCtorEq, Nat.reduceLeDiff, Nat.reduceAdd, Nat.reduceLT]
          ((try with_reducible refine mkQI ?_); (repeat ((first | (with_reducible refine mkQU ?_) | simp only [brGen]); try simp (maxSteps := 2000000) only [↓ S2, S2, vIte, ↓reduceIte, Int.reduceNe, Nat.reduceEqDiff, reduceCtorEq, Nat.reduceLeDiff, Nat.reduceAdd, Nat.reduceLT, hr, h, hL, hkk, decide_true, decide_false])); (try simp +contextual (disch := omega) only [Z2, hr, h, hL, hkk, decide_true, decide_false]); (repeat' (first | (with_reducible intro h) | (with_reducible refine And.intro (by omega) ?_) | (with_reducible refine exP (by omega) ?_) | (with_reducible apply And.intro))))
          refine callS.eq (w84 _ _ _) ?_
          ((try with_reducible refine mkQI ?_); (repeat ((first | (with_reducible refine mkQU ?_) | simp only [brGen]); try simp (maxSteps := 2000000) only [↓ S2, S2, vIte, ↓reduceIte, Int.reduceNe, Nat.reduceEqDiff, reduceCtorEq, Nat.reduceLeDiff, Nat.reduceAdd, Nat.reduceLT, hwd, hr, h2])); (try simp +contextual (disch := omega) only [Z2, hwd, hr, h2]); (repeat' (first | (with_reducible intro h) | (with_reducible refine And.intro (by omega) ?_) | (with_reducible refine exP (by omega) ?_) | (with_reducible apply And.intro))))
          all_goals first | rfl | exact ⟨rfl, rfl⟩ | trace_state
      · have e : numP ts i lo hh = .bad i := by unfold numP; rw [getD_lt h, if_neg (fun hc => hk hc.2.1)]
        have hkk : ((ts[i].kind = 2) = False) := eq_false hk
        rw [e]
        refine gstart mxd i125 rfl (by simp) ?_; simp (maxSteps := 2000000) only [↓ S2, S2, vIte, ↓reduceIte, Int.reduceNe, Nat.reduceEqDiff, reduceCtorEq, Nat.reduceLeDiff, Nat.reduceAdd, Nat.reduceLT]
        ((try with_reducible refine mkQI ?_); (repeat ((first | (with_reducible refine mkQU ?_) | simp only [brGen]); try simp (maxSteps := 2000000) only [↓ S2, S2, vIte, ↓reduceIte, Int.reduceNe, Nat.reduceEqDiff, reduceCtorEq, Nat.reduceLeDiff, Nat.reduceAdd, Nat.reduceLT, hr, h, hL, hkk, decide_true, decide_false])); (try simp +contextual (disch := omega) only [Z2, hr, h, hL, hkk, decide_true, decide_false]); (repeat' (first | (with_reducible intro h) | (with_reducible refine And.intro (by omega) ?_) | (with_reducible refine exP (by omega) ?_) | (with_reducible apply And.intro))))
        all_goals first | rfl | exact ⟨rfl, rfl⟩ | trace_state
    · have e : numP ts i lo hh = .bad i := by unfold numP; rw [if_neg (fun hc => by omega)]
      rw [e]
      refine gstart mxd i125 rfl (by simp) ?_; simp (maxSteps := 2000000) only [↓ S2, S2, vIte, ↓reduceIte, Int.reduceNe, Nat.reduceEqDiff, reduceCtorEq, Nat.reduceLeDiff, Nat.reduceAdd, Nat.reduceLT]
      ((try with_reducible refine mkQI ?_); (repeat ((first | (with_reducible refine mkQU ?_) | simp only [brGen]); try simp (maxSteps := 2000000) only [↓ S2, S2, vIte, ↓reduceIte, Int.reduceNe, Nat.reduceEqDiff, reduceCtorEq, Nat.reduceLeDiff, Nat.reduceAdd, Nat.reduceLT, hr, hG, decide_true])); (try simp +contextual (disch := omega) only [Z2, hr, hG, decide_true]); (repeat' (first | (with_reducible intro h) | (with_reducible refine And.intro (by omega) ?_) | (with_reducible refine exP (by omega) ?_) | (with_reducible apply And.intro))))
      all_goals first | rfl | exact ⟨rfl, rfl⟩ | trace_state
end Go.Proofs.YtkmedfejmndmjaaGreatDoor

namespace Go.Proofs.YtkmedfejmndmjaaGreatDoor
open Go.Gh
set_option maxRecDepth 20000
set_option linter.unusedSimpArgs false
set_option linter.unusedVariables false
open Go.Lib
set_option maxHeartbeats 4000000 in
theorem w127 (ts : List Go.Gh.Tok) (hl : ts.length ≤ 80) (ht : okTs ts) (i : Nat) (hi : i ≤ ts.length) (b : Bool) (rp : Nat) (H : GH) (hr : hget H rp = some (3, [PaG ts i b])) :
    GCalls Tryz.prog 127 [.ptr rp 3 0 0] H (fun g H' => g = T (PR.val noS (frm b (nameP ts) i)) ∧ H' = hset H rp [PaG ts (frm b (nameP ts) i).at (frm b (nameP ts) i).err]) := by
  have h2 : ∀ fs, hget (hset H rp fs) rp = some (3, fs) := fun fs => hget_set hr
  cases b with
  | true =>
    refine gstart mxd i127 rfl (by simp) ?_; simp (maxSteps := 2000000) only [↓ S2, S2, vIte, ↓reduceIte, Int.reduceNe, Nat.reduceEqDiff, reduceCtorEq, Nat.reduceLeDiff, Nat.reduceAdd, Nat.reduceLT]
    ((try with_reducible refine mkQI ?_); (repeat ((first | (with_reducible refine mkQU ?_) | simp only [brGen]); try simp (maxSteps := 2000000) only [↓ S2, S2, vIte, ↓reduceIte, Int.reduceNe, Nat.reduceEqDiff, reduceCtorEq, Nat.reduceLeDiff, Nat.reduceAdd, Nat.reduceLT, hr])); (try simp +contextual (disch := omega) only [Z2, hr]); (repeat' (first | (with_reducible intro h) | (with_reducible refine And.intro (by omega) ?_) | (with_reducible refine exP (by omega) ?_) | (with_reducible apply And.intro))))
    all_goals first | rfl | exact ⟨rfl, rfl⟩
  | false =>
    rw [frm_f]
    rcases Nat.lt_or_ge i ts.length with h | hG
    · have hL : ¬ ts.length ≤ i := by omega
      have hx1 : ((i : Int) + 1 - 1) = (i : Int) := by omega
      have hsz := (ht _ (List.getElem_mem h)).2
      have hm : ts[i].text.size ≤ maxLen := by simp only [maxLen, size_chars]; omega
      by_cases hk : ts[i].kind = 1
      · have hkk : ((ts[i].kind = 1) = True) := eq_true hk
        by_cases hw : nameV ts[i].text = true
        · have e : nameP ts i = .ok ts[i].text (i + 1) := by unfold nameP; rw [getD_lt h, if_pos ⟨h, hk, hw⟩]
          rw [e]
          refine gstart mxd i127 rfl (by simp) ?_; simp (maxSteps := 2000000) only [↓ S2, S2, vIte, ↓reduceIte, Int.reduceNe, Nat.reduceEqDiff, reduceCtorEq, Nat.reduceLeDiff, Nat.reduceAdd, Nat.reduceLT]
          ((try with_reducible refine mkQI ?_); (repeat ((first | (with_reducible refine mkQU ?_) | simp only [brGen]); try simp (maxSteps := 2000000) only [↓ S2, S2, vIte, ↓reduceIte, Int.reduceNe, Nat.reduceEqDiff, reduceCtorEq, Nat.reduceLeDiff, Nat.reduceAdd, Nat.reduceLT, hr, h, hL, hkk, decide_true, decide_false])); (try simp +contextual (disch := omega) only [Z2, hr, h, hL, hkk, decide_true, decide_false]); (repeat' (first | (with_reducible intro h) | (with_reducible refine And.intro (by omega) ?_) | (with_reducible refine exP (by omega) ?_) | (with_reducible apply And.intro))))
          refine callS.eq (w83 _ hm) ?_
          ((try with_reducible refine mkQI ?_); (repeat ((first | (with_reducible refine mkQU ?_) | simp only [brGen]); try simp (maxSteps := 2000000) only [↓ S2, S2, vIte, ↓reduceIte, Int.reduceNe, Nat.reduceEqDiff, reduceCtorEq, Nat.reduceLeDiff, Nat.reduceAdd, Nat.reduceLT, hw, hr, h, h2, hset_set, hx1])); (try simp +contextual (disch := omega) only [Z2, hw, hr, h, h2, hset_set, hx1]); (repeat' (first | (with_reducible intro h) | (with_reducible refine And.intro (by omega) ?_) | (with_reducible refine exP (by omega) ?_) | (with_reducible apply And.intro))))
          all_goals first | rfl | exact ⟨rfl, rfl⟩ | trace_state
        · have hw' : nameV ts[i].text = false := by simpa using hw
          have e : nameP ts i = .bad i := by unfold nameP; rw [getD_lt h, if_neg (fun hc => hw hc.2.2)]
          rw [e]
          refine gstart mxd i127 rfl (by simp) ?_; simp (maxSteps := 2000000) only [↓ S2, S2, vIte, ↓reduceIte, Int.reduceNe, Nat.reduceEqDiff, reduceCtorEq, Nat.reduceLeDiff, Nat.reduceAdd, Nat.reduceLT]
          ((try with_reducible refine mkQI ?_); (repeat ((first | (with_reducible refine mkQU ?_) | simp only [brGen]); try simp (maxSteps := 2000000) only [↓ S2, S2, vIte, ↓reduceIte, Int.reduceNe, Nat.reduceEqDiff, reduceCtorEq, Nat.reduceLeDiff, Nat.reduceAdd, Nat.reduceLT, hr, h, hL, hkk, decide_true, decide_false])); (try simp +contextual (disch := omega) only [Z2, hr, h, hL, hkk, decide_true, decide_false]); (repeat' (first | (with_reducible intro h) | (with_reducible refine And.intro (by omega) ?_) | (with_reducible refine exP (by omega) ?_) | (with_reducible apply And.intro))))
          refine callS.eq (w83 _ hm) ?_
          ((try with_reducible refine mkQI ?_); (repeat ((first | (with_reducible refine mkQU ?_) | simp only [brGen]); try simp (maxSteps := 2000000) only [↓ S2, S2, vIte, ↓reduceIte, Int.reduceNe, Nat.reduceEqDiff, reduceCtorEq, Nat.reduceLeDiff, Nat.reduceAdd, Nat.reduceLT, hw', hr, h2])); (try simp +contextual (disch := omega) only [Z2, hw', hr, h2]); (repeat' (first | (with_reducible intro h) | (with_reducible refine And.intro (by omega) ?_) | (with_reducible refine exP (by omega) ?_) | (with_reducible apply And.intro))))
          all_goals first | rfl | exact ⟨rfl, rfl⟩ | trace_state
      · have e : nameP ts i = .bad i := by unfold nameP; rw [getD_lt h, if_neg (fun hc => hk hc.2.1)]
        have hkk : ((ts[i].kind = 1) = False) := eq_false hk
        rw [e]
        refine gstart mxd i127 rfl (by simp) ?_; simp (maxSteps := 2000000) only [↓ S2, S2, vIte, ↓reduceIte, Int.reduceNe, Nat.reduceEqDiff, reduceCtorEq, Nat.reduceLeDiff, Nat.reduceAdd, Nat.reduceLT]
        ((try with_reducible refine mkQI ?_); (repeat ((first | (with_reducible refine mkQU ?_) | simp only [brGen]); try simp (maxSteps := 2000000) only [↓ S2, S2, vIte, ↓reduceIte, Int.reduceNe, Nat.reduceEqDiff, reduceCtorEq, Nat.reduceLeDiff, Nat.reduceAdd, Nat.reduceLT, hr, h, hL, hkk, decide_true, decide_false])); (try simp +contextual (disch := omega) only [Z2, hr, h, hL, hkk, decide_true, decide_false]); (repeat' (first | (with_reducible intro h) | (with_reducible refine And.intro (by omega) ?_) | (with_reducible refine exP (by omega) ?_) | (with_reducible apply And.intro))))
        all_goals first | rfl | exact ⟨rfl, rfl⟩ | trace_state
    · have e : nameP ts i = .bad i := by unfold nameP; rw [if_neg (fun hc => by omega)]
      rw [e]
      refine gstart mxd i127 rfl (by simp) ?_; simp (maxSteps := 2000000) only [↓ S2, S2, vIte, ↓reduceIte, Int.reduceNe, Nat.reduceEqDiff, reduceCtorEq, Nat.reduceLeDiff, Nat.reduceAdd, Nat.reduceLT]
      ((try with_reducible refine mkQI ?_); (repeat ((first | (with_reducible refine mkQU ?_) | simp only [brGen]); try simp (maxSteps := 2000000) only [↓ S2, S2, vIte, ↓reduceIte, Int.reduceNe, Nat.reduceEqDiff, reduceCtorEq, Nat.reduceLeDiff, Nat.reduceAdd, Nat.reduceLT, hr, hG, decide_true])); (try simp +contextual (disch := omega) only [Z2, hr, hG, decide_true]); (repeat' (first | (with_reducible intro h) | (with_reducible refine And.intro (by omega) ?_) | (with_reducible refine exP (by omega) ?_) | (with_reducible apply And.intro))))
      all_goals first | rfl | exact ⟨rfl, rfl⟩ | trace_state
end Go.Proofs.YtkmedfejmndmjaaGreatDoor

namespace Go.Proofs.YtkmedfejmndmjaaGreatDoor
open Go.Gh
set_option maxRecDepth 20000
set_option linter.unusedSimpArgs false
set_option linter.unusedVariables false
open Go.Lib
set_option maxHeartbeats 4000000 in
theorem o68 (op : Int) (a b : Exp) (ra rb : Nat) (H : GH) (hab : ra ≠ rb) (ha : hget H ra = some (7, a.args.map ExO)) (hb : hget H rb = some (7, b.args.map ExO)) :
    GCalls Tryz.prog 68 [I op, EO ra a, EO rb b] H (fun g H' => ∃ r, g = EO r (opE op a b) ∧ H' = (r, 7, (opE op a b).args.map ExO) :: hdel (hdel H ra) rb) := by
  have h0 : GCalls Tryz.prog 68 [I op, EO ra a, EO rb b] H (fun g H' => ∃ r, r ≠ ra ∧ r ≠ rb ∧ g = EO r (opE op a b) ∧ H' = (r, 7, [EO ra a, EO rb b]) :: H) := by
    refine gstart mxd i68 rfl (by simp) ?_; simp (maxSteps := 2000000) only [↓ S2, S2, vIte, ↓reduceIte, Int.reduceNe, Nat.reduceEqDiff, reduceCtorEq, Nat.reduceLeDiff, Nat.reduceAdd, Nat.reduceLT]
    ((try with_reducible refine mkQI ?_); (repeat ((first | (with_reducible refine mkQU ?_) | simp only [brGen]); try simp (maxSteps := 4000000) +contextual only [↓ S2, S2, vIte, ↓reduceIte, Int.reduceNe, Nat.reduceEqDiff, reduceCtorEq, Nat.reduceLeDiff, Nat.reduceAdd, Nat.reduceLT, hget_c, hset_c, hdel_c, neN, neA_cons, neA_nil, ])); (try simp +contextual (disch := omega) only [Z2, ]); (repeat' (first | (with_reducible intro h) | (with_reducible refine And.intro (by omega) ?_) | (with_reducible refine exP (by omega) ?_) | (with_reducible apply And.intro))))
    rename_i r
    have h1 := neA_get h.1 ha
    have h2 := neA_get h.1 hb
    exact ⟨r, h1, h2, rfl, rfl⟩
  refine h0.fr ?_
  rintro g H' ⟨r, h1, h2, rfl, rfl⟩
  have e1 : hdel (hset ((r, 7, [EO ra a, EO rb b]) :: H) r [.agg [I a.kind, I a.n, I a.pos, I a.type, T a.sym, T a.name, .osl 7 (a.args.map ExO)], EO rb b]) ra = (r, 7, [ExO a, EO rb b]) :: hdel H ra := by
    rw [hset_new, ExO_eq]
    simp [hdel, h1]
  have e2 : hdel (hset ((r, 7, [ExO a, EO rb b]) :: hdel H ra) r [ExO a, .agg [I b.kind, I b.n, I b.pos, I b.type, T b.sym, T b.name, .osl 7 (b.args.map ExO)]]) rb = (r, 7, [ExO a, ExO b]) :: hdel (hdel H ra) rb := by
    rw [hset_new, ExO_eq b]
    simp [hdel, h2]
  have c1 : FR (EO r (opE op a b)) ((r, 7, [EO ra a, EO rb b]) :: H) (EO r (opE op a b)) ((r, 7, [ExO a, EO rb b]) :: hdel H ra) := by
    rw [← e1]
    exact FR.close (es := [EO ra a, EO rb b]) (i := 0) (j := 6) (gs := [I a.kind, I a.n, I a.pos, I a.type, T a.sym, T a.name, .own ra 7 0 a.args.length]) h1 hget_new rfl rfl (by rw [hget_old h1]; exact ha) (by simp)
  have c2 : FR (EO r (opE op a b)) ((r, 7, [ExO a, EO rb b]) :: hdel H ra) (EO r (opE op a b)) ((r, 7, [ExO a, ExO b]) :: hdel (hdel H ra) rb) := by
    rw [← e2]
    exact FR.close (es := [ExO a, EO rb b]) (i := 1) (j := 6) (gs := [I b.kind, I b.n, I b.pos, I b.type, T b.sym, T b.name, .own rb 7 0 b.args.length]) h2 hget_new rfl rfl (by rw [hget_old h2, hget_hdel (Ne.symm hab)]; exact hb) (by simp)
  exact ⟨_, _, FR.trans c1 c2, r, rfl, rfl⟩
set_option maxHeartbeats 4000000 in
theorem o126 (ts : List Go.Gh.Tok) (hl : ts.length ≤ 80) (i : Nat) (hi : i ≤ ts.length) (rp : Nat) (H : GH) (hr : hget H rp = some (3, [PaG ts i false])) :
    GCalls Tryz.prog 126 [.ptr rp 3 0 0] H (EP (PaG ts) ((setP ts (ts.length + 1) i 0 0).bind fun s j => .ok (conE s 2) j) rp H) := by
  have h0 : GCalls Tryz.prog 126 [.ptr rp 3 0 0] H (fun g H' => ∃ v, g = ExN (conE v 2) ∧ H' = hset H rp [PaG ts (setP ts (ts.length + 1) i 0 0).at (setP ts (ts.length + 1) i 0 0).err] ∧ ∀ a j, setP ts (ts.length + 1) i 0 0 = .ok a j → v = a) := by
    generalize hR : setP ts (ts.length + 1) i 0 0 = R at *
    refine gstart mxd i126 rfl (by simp) ?_; simp (maxSteps := 2000000) only [↓ S2, S2, vIte, ↓reduceIte, Int.reduceNe, Nat.reduceEqDiff, reduceCtorEq, Nat.reduceLeDiff, Nat.reduceAdd, Nat.reduceLT]
    ((try with_reducible refine mkQI ?_); (repeat ((first | (with_reducible refine mkQU ?_) | simp only [brGen]); try simp (maxSteps := 4000000) +contextual only [↓ S2, S2, vIte, ↓reduceIte, Int.reduceNe, Nat.reduceEqDiff, reduceCtorEq, Nat.reduceLeDiff, Nat.reduceAdd, Nat.reduceLT, hget_c, hset_c, hdel_c, neN, neA_cons, neA_nil, ])); (try simp +contextual (disch := omega) only [Z2, ]); (repeat' (first | (with_reducible intro h) | (with_reducible refine And.intro (by omega) ?_) | (with_reducible refine exP (by omega) ?_) | (with_reducible apply And.intro))))
    refine wloop mxd (ι := { x : Nat × Bool × Int × Int // x.1 ≤ ts.length ∧ 0 ≤ x.2.2.1 ∧ x.2.2.1 ≤ 4095 ∧ 0 ≤ x.2.2.2 ∧ x.2.2.2 ≤ 12 ∧ (x.2.1 = true → R = .bad x.1) ∧ (x.2.1 = false → ∃ f, ts.length - x.1 < f ∧ setP ts f x.1 x.2.2.2 x.2.2.1 = R) }) (fun x => [(0, .ptr rp 3 0 0), (2, .raw 7), (3, I x.1.2.2.1), (4, I x.1.2.2.2)]) (fun x => hset H rp [PaG ts x.1.1 x.1.2.1]) (fun x => if x.1.2.1 = true then 0 else ts.length - x.1.1 + 1) ⟨(i, false, 0, 0), hi, by dsimp only; omega, by dsimp only; omega, by dsimp only; omega, by dsimp only; omega, (fun h => by cases h), fun _ => ⟨_, by dsimp only; omega, hR⟩⟩ (by simp [E2]) (hset_self hr).symm ?_
    rintro ⟨⟨k, b, v, l⟩, hk, v0, v1, l0, l1, hb1, hb2⟩
    dsimp only at hk v0 v1 l0 l1 hb1 hb2 ⊢
    have hr' := hget_set (fs := [PaG ts k b]) hr
    cases b with
    | true =>
      obtain rfl := hb1 rfl
      ((try with_reducible refine mkQI ?_); (repeat ((first | (with_reducible refine mkQU ?_) | simp only [brGen]); try simp (maxSteps := 4000000) +contextual only [↓ S2, S2, vIte, ↓reduceIte, Int.reduceNe, Nat.reduceEqDiff, reduceCtorEq, Nat.reduceLeDiff, Nat.reduceAdd, Nat.reduceLT, hget_c, hset_c, hdel_c, neN, neA_cons, neA_nil, hr', Bool.not_true])); (try simp +contextual (disch := omega) only [Z2, hr', Bool.not_true]); (repeat' (first | (with_reducible intro h) | (with_reducible refine And.intro (by omega) ?_) | (with_reducible refine exP (by omega) ?_) | (with_reducible apply And.intro))))
      refine callS.of (w65 ts hl k hk true ⟨#[125]⟩ rp _ hr') ?_
      rintro _ _ rfl _
      ((try with_reducible refine mkQI ?_); (repeat ((first | (with_reducible refine mkQU ?_) | simp only [brGen]); try simp (maxSteps := 4000000) +contextual only [↓ S2, S2, vIte, ↓reduceIte, Int.reduceNe, Nat.reduceEqDiff, reduceCtorEq, Nat.reduceLeDiff, Nat.reduceAdd, Nat.reduceLT, hget_c, hset_c, hdel_c, neN, neA_cons, neA_nil, hset_set])); (try simp +contextual (disch := omega) only [Z2, hset_set]); (repeat' (first | (with_reducible intro h) | (with_reducible refine And.intro (by omega) ?_) | (with_reducible refine exP (by omega) ?_) | (with_reducible apply And.intro))))
      refine callS.eq (w124 v 2) ?_
      ((try with_reducible refine mkQI ?_); (repeat ((first | (with_reducible refine mkQU ?_) | simp only [brGen]); try simp (maxSteps := 4000000) +contextual only [↓ S2, S2, vIte, ↓reduceIte, Int.reduceNe, Nat.reduceEqDiff, reduceCtorEq, Nat.reduceLeDiff, Nat.reduceAdd, Nat.reduceLT, hget_c, hset_c, hdel_c, neN, neA_cons, neA_nil, ])); (try simp +contextual (disch := omega) only [Z2, ]); (repeat' (first | (with_reducible intro h) | (with_reducible refine And.intro (by omega) ?_) | (with_reducible refine exP (by omega) ?_) | (with_reducible apply And.intro))))
      all_goals exact ⟨v, rfl, rfl⟩
    | false =>
      obtain ⟨f, hf, hs⟩ := hb2 rfl
      obtain ⟨f, rfl⟩ : ∃ g, f = g + 1 := ⟨f - 1, by omega⟩
      simp only [setP] at hs
      cases hq : sees ts k wRB with
      | true =>
        rw [if_pos hq] at hs
        subst hs
        have h1 := w101 ts hl k hk false ⟨#[125]⟩ rp _ hr'
        have h2 := w65 ts hl k hk false ⟨#[125]⟩ rp _ hr'
        rw [show (⟨#[125]⟩ : ByteArray) = wRB from rfl] at h1 h2
        rw [hq] at h1
        rw [frm_f, take_t hq] at h2
        ((try with_reducible refine mkQI ?_); (repeat ((first | (with_reducible refine mkQU ?_) | simp only [brGen]); try simp (maxSteps := 4000000) +contextual only [↓ S2, S2, vIte, ↓reduceIte, Int.reduceNe, Nat.reduceEqDiff, reduceCtorEq, Nat.reduceLeDiff, Nat.reduceAdd, Nat.reduceLT, hget_c, hset_c, hdel_c, neN, neA_cons, neA_nil, hr', Bool.not_false])); (try simp +contextual (disch := omega) only [Z2, hr', Bool.not_false]); (repeat' (first | (with_reducible intro h) | (with_reducible refine And.intro (by omega) ?_) | (with_reducible refine exP (by omega) ?_) | (with_reducible apply And.intro))))
        refine callS.of h1 ?_
        rintro _ _ ⟨rfl, rfl⟩ _
        ((try with_reducible refine mkQI ?_); (repeat ((first | (with_reducible refine mkQU ?_) | simp only [brGen]); try simp (maxSteps := 4000000) +contextual only [↓ S2, S2, vIte, ↓reduceIte, Int.reduceNe, Nat.reduceEqDiff, reduceCtorEq, Nat.reduceLeDiff, Nat.reduceAdd, Nat.reduceLT, hget_c, hset_c, hdel_c, neN, neA_cons, neA_nil, hr', Bool.not_true])); (try simp +contextual (disch := omega) only [Z2, hr', Bool.not_true]); (repeat' (first | (with_reducible intro h) | (with_reducible refine And.intro (by omega) ?_) | (with_reducible refine exP (by omega) ?_) | (with_reducible apply And.intro))))
        refine callS.of h2 ?_
        rintro _ _ rfl _
        ((try with_reducible refine mkQI ?_); (repeat ((first | (with_reducible refine mkQU ?_) | simp only [brGen]); try simp (maxSteps := 4000000) +contextual only [↓ S2, S2, vIte, ↓reduceIte, Int.reduceNe, Nat.reduceEqDiff, reduceCtorEq, Nat.reduceLeDiff, Nat.reduceAdd, Nat.reduceLT, hget_c, hset_c, hdel_c, neN, neA_cons, neA_nil, hset_set])); (try simp +contextual (disch := omega) only [Z2, hset_set]); (repeat' (first | (with_reducible intro h) | (with_reducible refine And.intro (by omega) ?_) | (with_reducible refine exP (by omega) ?_) | (with_reducible apply And.intro))))
        refine callS.eq (w124 v 2) ?_
        ((try with_reducible refine mkQI ?_); (repeat ((first | (with_reducible refine mkQU ?_) | simp only [brGen]); try simp (maxSteps := 4000000) +contextual only [↓ S2, S2, vIte, ↓reduceIte, Int.reduceNe, Nat.reduceEqDiff, reduceCtorEq, Nat.reduceLeDiff, Nat.reduceAdd, Nat.reduceLT, hget_c, hset_c, hdel_c, neN, neA_cons, neA_nil, ])); (try simp +contextual (disch := omega) only [Z2, ]); (repeat' (first | (with_reducible intro h) | (with_reducible refine And.intro (by omega) ?_) | (with_reducible refine exP (by omega) ?_) | (with_reducible apply And.intro))))
        all_goals first | exact ⟨v, rfl, rfl, fun a j h => by cases h; rfl⟩ | trace_state
      | false =>
        rw [if_neg (by rw [hq]; decide)] at hs
        have h1 := w101 ts hl k hk false ⟨#[125]⟩ rp _ hr'
        have h2 := w125 ts hl k hk false l 11 rp _ hr'
        rw [show (⟨#[125]⟩ : ByteArray) = wRB from rfl, hq] at h1
        rw [frm_f] at h2
        cases hn : numP ts k l 11 with
        | bad j =>
          rw [hn] at hs h2
          simp only [PR.val, PR.at, PR.err] at h2
          have hj : j = k := by unfold numP at hn; split at hn <;> cases hn; rfl
          subst hj
          have hr2 := hget_set (fs := [PaG ts j true]) hr
          ((try with_reducible refine mkQI ?_); (repeat ((first | (with_reducible refine mkQU ?_) | simp only [brGen]); try simp (maxSteps := 4000000) +contextual only [↓ S2, S2, vIte, ↓reduceIte, Int.reduceNe, Nat.reduceEqDiff, reduceCtorEq, Nat.reduceLeDiff, Nat.reduceAdd, Nat.reduceLT, hget_c, hset_c, hdel_c, neN, neA_cons, neA_nil, hr', Bool.not_false])); (try simp +contextual (disch := omega) only [Z2, hr', Bool.not_false]); (repeat' (first | (with_reducible intro h) | (with_reducible refine And.intro (by omega) ?_) | (with_reducible refine exP (by omega) ?_) | (with_reducible apply And.intro))))
          refine callS.of h1 ?_
          rintro _ _ ⟨rfl, rfl⟩ _
          ((try with_reducible refine mkQI ?_); (repeat ((first | (with_reducible refine mkQU ?_) | simp only [brGen]); try simp (maxSteps := 4000000) +contextual only [↓ S2, S2, vIte, ↓reduceIte, Int.reduceNe, Nat.reduceEqDiff, reduceCtorEq, Nat.reduceLeDiff, Nat.reduceAdd, Nat.reduceLT, hget_c, hset_c, hdel_c, neN, neA_cons, neA_nil, hr', Bool.not_true])); (try simp +contextual (disch := omega) only [Z2, hr', Bool.not_true]); (repeat' (first | (with_reducible intro h) | (with_reducible refine And.intro (by omega) ?_) | (with_reducible refine exP (by omega) ?_) | (with_reducible apply And.intro))))
          refine callS.of h2 ?_
          rintro _ _ ⟨rfl, rfl⟩ _
          ((try with_reducible refine mkQI ?_); (repeat ((first | (with_reducible refine mkQU ?_) | simp only [brGen]); try simp (maxSteps := 4000000) +contextual only [↓ S2, S2, vIte, ↓reduceIte, Int.reduceNe, Nat.reduceEqDiff, reduceCtorEq, Nat.reduceLeDiff, Nat.reduceAdd, Nat.reduceLT, hget_c, hset_c, hdel_c, neN, neA_cons, neA_nil, hset_set, hr2])); (try simp +contextual (disch := omega) only [Z2, hset_set, hr2]); (repeat' (first | (with_reducible intro h) | (with_reducible refine And.intro (by omega) ?_) | (with_reducible refine exP (by omega) ?_) | (with_reducible apply And.intro))))
          exact nx ⟨(j, true, v, l), hk, v0, v1, l0, l1, fun _ => hs.symm, fun h => by cases h⟩ (by simp) (by simp [E2]) rfl
        | ok n j =>
          rw [hn] at hs h2
          simp only [PR.val, PR.at, PR.err] at h2
          have hlt0 := num_lt hn
          obtain ⟨rfl, n0, n1⟩ := num_nx hn
          have hlt : k < ts.length := hlt0
          obtain ⟨q0, q1, _⟩ := set_len v0 v1 (by omega : 0 ≤ n) n1
          have hr2 := hget_set (fs := [PaG ts (k + 1) false]) hr
          have hwu := wrapU n (by omega) (by omega)
          ((try with_reducible refine mkQI ?_); (repeat ((first | (with_reducible refine mkQU ?_) | simp only [brGen]); try simp (maxSteps := 4000000) +contextual only [↓ S2, S2, vIte, ↓reduceIte, Int.reduceNe, Nat.reduceEqDiff, reduceCtorEq, Nat.reduceLeDiff, Nat.reduceAdd, Nat.reduceLT, hget_c, hset_c, hdel_c, neN, neA_cons, neA_nil, hr', Bool.not_false])); (try simp +contextual (disch := omega) only [Z2, hr', Bool.not_false]); (repeat' (first | (with_reducible intro h) | (with_reducible refine And.intro (by omega) ?_) | (with_reducible refine exP (by omega) ?_) | (with_reducible apply And.intro))))
          refine callS.of h1 ?_
          rintro _ _ ⟨rfl, rfl⟩ _
          ((try with_reducible refine mkQI ?_); (repeat ((first | (with_reducible refine mkQU ?_) | simp only [brGen]); try simp (maxSteps := 4000000) +contextual only [↓ S2, S2, vIte, ↓reduceIte, Int.reduceNe, Nat.reduceEqDiff, reduceCtorEq, Nat.reduceLeDiff, Nat.reduceAdd, Nat.reduceLT, hget_c, hset_c, hdel_c, neN, neA_cons, neA_nil, hr', Bool.not_true])); (try simp +contextual (disch := omega) only [Z2, hr', Bool.not_true]); (repeat' (first | (with_reducible intro h) | (with_reducible refine And.intro (by omega) ?_) | (with_reducible refine exP (by omega) ?_) | (with_reducible apply And.intro))))
          refine callS.of h2 ?_
          rintro _ _ ⟨rfl, rfl⟩ _
          ((try with_reducible refine mkQI ?_); (repeat ((first | (with_reducible refine mkQU ?_) | simp only [brGen]); try simp (maxSteps := 4000000) +contextual only [↓ S2, S2, vIte, ↓reduceIte, Int.reduceNe, Nat.reduceEqDiff, reduceCtorEq, Nat.reduceLeDiff, Nat.reduceAdd, Nat.reduceLT, hget_c, hset_c, hdel_c, neN, neA_cons, neA_nil, hset_set, hr2, hwu])); (try simp +contextual (disch := omega) only [Z2, hset_set, hr2, hwu]); (repeat' (first | (with_reducible intro h) | (with_reducible refine And.intro (by omega) ?_) | (with_reducible refine exP (by omega) ?_) | (with_reducible apply And.intro))))
          all_goals try (exfalso; omega)
          all_goals first | exact nx ⟨(k + 1, false, orI .i64 v (shlI .i64 1 n), n + 1), by dsimp only; omega, q0, q1, by dsimp only; omega, by dsimp only; omega, (fun h => by cases h), fun _ => ⟨f, by dsimp only; omega, hs⟩⟩ (by dsimp only; simp; omega) (by simp [E2]) rfl | trace_state
  refine h0.fr ?_
  rintro g H' ⟨v, rfl, rfl, hv⟩
  obtain ⟨r, hf⟩ := FR.nilE (e := conE v 2) rfl (hset H rp [PaG ts (setP ts (ts.length + 1) i 0 0).at (setP ts (ts.length + 1) i 0 0).err])
  refine ⟨_, _, hf, conE v 2, r, rfl, ?_, ?_⟩
  · cases setP ts (ts.length + 1) i 0 0 <;> rfl
  · intro a j h
    cases hs : setP ts (ts.length + 1) i 0 0 with
    | bad k => rw [hs] at h; cases h
    | ok s k => rw [hs] at h; cases h; rw [hv s _ hs]
end Go.Proofs.YtkmedfejmndmjaaGreatDoor

namespace Go.Proofs.YtkmedfejmndmjaaGreatDoor
open Go.Gh
set_option maxRecDepth 20000
set_option linter.unusedSimpArgs false
set_option linter.unusedVariables false
open Go.Lib
set_option maxHeartbeats 8000000 in
theorem Tryz.rowS (lv : Nat) (h2 : 2 ≤ lv) (h3 : lv ≤ 3) (ts : List Go.Gh.Tok) (hl : ts.length ≤ 80) (ht : okTs ts) (X : Nat → PR Exp) (i0 : Nat) (hXb : ∀ i, BdA ts i (X i))
    (hX : ∀ (i : Nat) (b : Bool) (rp : Nat) (H : GH), i0 ≤ i → i ≤ ts.length → hget H rp = some (3, [PaG ts i b]) → GCalls Tryz.prog 66 [.ptr rp 3 0 0, I ((lv : Int) + 1)] H (EP (PaG ts) (frm b X i) rp H))
    (i : Nat) (b : Bool) (rp : Nat) (H : GH) (h0i : i0 ≤ i) (hi : i ≤ ts.length) (hr : hget H rp = some (3, [PaG ts i b])) : GCalls Tryz.prog 66 [.ptr rp 3 0 0, I lv] H (EP (PaG ts) (frm b (lvP ts X lv) i) rp H) := by
  have hlv4 : ¬ (lv : Int) = 4 := by omega
  generalize hR : frm b (lvP ts X lv) i = R
  have h0 : GCalls Tryz.prog 66 [.ptr rp 3 0 0, I lv] H (fun g H' => ∃ e r r5 u, r ≠ r5 ∧ g = EO r e ∧ H' = (r, 7, e.args.map ExO) :: (r5, 7, u) :: hset H rp [PaG ts R.at R.err] ∧ ∀ a j, R = .ok a j → e = a) := by
    refine gstart mxd i66 rfl (by simp) ?_; simp (maxSteps := 2000000) only [↓ S2, S2, vIte, ↓reduceIte, Int.reduceNe, Nat.reduceEqDiff, reduceCtorEq, Nat.reduceLeDiff, Nat.reduceAdd, Nat.reduceLT]
    ((try with_reducible refine mkQI ?_); (repeat ((first | (with_reducible refine mkQU ?_) | simp only [brGen]); try simp (maxSteps := 4000000) +contextual only [↓ S2, S2, vIte, ↓reduceIte, Int.reduceNe, Nat.reduceEqDiff, reduceCtorEq, Nat.reduceLeDiff, Nat.reduceAdd, Nat.reduceLT, hget_c, hset_c, hdel_c, neN, neA_cons, neA_nil, hlv4])); (try simp +contextual (disch := omega) only [Z2, hlv4]); (repeat' (first | (with_reducible intro h) | (with_reducible refine And.intro (by omega) ?_) | (with_reducible refine exP (by omega) ?_) | (with_reducible apply And.intro))))
    all_goals try (exfalso; omega)
    refine callS.of (hX i b rp H h0i hi hr) ?_
    rintro g H' ⟨e, r, rfl, rfl, he⟩ hn
    have hP : (frm b X i).at ≤ ts.length := frm_bd (hXb i) hi
    have hP0 : i0 ≤ (frm b X i).at := Nat.le_trans h0i (frm_ge (hXb i) hi)
    generalize hPP : frm b X i = P at *
    have hr1 := hget_set (fs := [PaG ts P.at P.err]) hr
    have hrp := ne_of_new hn hr1
    replace hn := neH_of hn
    (replace hn := hn; simp only [neH_cons, neH_nil, neA_cons, neA_nil, and_true, true_and] at hn)
    ((try with_reducible refine mkQI ?_); (repeat ((first | (with_reducible refine mkQU ?_) | simp only [brGen]); try simp (maxSteps := 4000000) +contextual only [↓ S2, S2, vIte, ↓reduceIte, Int.reduceNe, Nat.reduceEqDiff, reduceCtorEq, Nat.reduceLeDiff, Nat.reduceAdd, Nat.reduceLT, hget_c, hset_c, hdel_c, neN, neA_cons, neA_nil, hn])); (try simp +contextual (disch := omega) only [Z2, hn]); (repeat' (first | (with_reducible intro h) | (with_reducible refine And.intro (by omega) ?_) | (with_reducible refine exP (by omega) ?_) | (with_reducible apply And.intro))))
    all_goals try (exfalso; omega)
    rename_i r5
    have hr5 := neA_get h.1.2.2 hr1
    have hne := h.1.2.1
    clear hn
    have hg1 : hget ((r5, 7, [EO r e]) :: (r, 7, e.args.map ExO) :: hset H rp [PaG ts P.at P.err]) rp = some (3, [PaG ts P.at P.err]) := by rw [hget_old hr5, hget_old hrp]; exact hr1
    refine callS.of (w67 ts hl ht P.at hP P.err lv (by omega) h3 rp _ hg1) ?_
    rintro _ _ ⟨rfl, rfl⟩ _
    rw [hset_old hr5, hset_old hrp, hset_set]
    ((try with_reducible refine mkQI ?_); (repeat ((first | (with_reducible refine mkQU ?_) | simp only [brGen]); try simp (maxSteps := 4000000) +contextual only [↓ S2, S2, vIte, ↓reduceIte, Int.reduceNe, Nat.reduceEqDiff, reduceCtorEq, Nat.reduceLeDiff, Nat.reduceAdd, Nat.reduceLT, hget_c, hset_c, hdel_c, neN, neA_cons, neA_nil, ])); (try simp +contextual (disch := omega) only [Z2, ]); (repeat' (first | (with_reducible intro h) | (with_reducible refine And.intro (by omega) ?_) | (with_reducible refine exP (by omega) ?_) | (with_reducible apply And.intro))))
    have hinv : (P.err = true → R = .bad P.at) ∧ (P.err = false → ∃ F, ts.length - P.at < F ∧ rowP ts X lv F e P.at = R) := by
      cases b with
      | true => rw [frm_t] at hPP hR; subst hPP hR; exact ⟨fun _ => rfl, fun h => by cases h⟩
      | false =>
        rw [frm_f] at hPP hR
        unfold lvP at hR
        rw [hPP] at hR
        cases P with
        | bad k => exact ⟨fun _ => hR.symm, fun h => by cases h⟩
        | ok a k =>
          obtain rfl := he a k rfl
          exact ⟨(fun h => by cases h), fun _ => ⟨ts.length + 1, by omega, hR⟩⟩
    refine wloopF mxd (ι := { y : Nat × Bool × Exp × Nat // (i0 ≤ y.1 ∧ y.1 ≤ ts.length) ∧ y.2.2.2 ≠ r5 ∧ (y.2.1 = true → R = .bad y.1) ∧ (y.2.1 = false → ∃ F, ts.length - y.1 < F ∧ rowP ts X lv F y.2.2.1 y.1 = R) }) (fun y => [(0, .ptr rp 3 0 0), (1, I lv), (4, .raw 7), (5, .ptr r5 7 0 0), (6, I (opB ts y.1.2.1 y.1.1 lv))]) (fun y => (y.1.2.2.2, 7, y.1.2.2.1.args.map ExO) :: (r5, 7, [EO y.1.2.2.2 y.1.2.2.1]) :: hset H rp [PaG ts (if opB ts y.1.2.1 y.1.1 lv ≠ 0 then y.1.1 + 1 else y.1.1) y.1.2.1]) (fun y => if y.1.2.1 = true then 0 else ts.length - y.1.1 + 1) ⟨(P.at, P.err, e, r), ⟨hP0, hP⟩, hne, hinv.1, hinv.2⟩ FE.swap (by simp [E2]) rfl ?_
    clear hinv hg1 he hPP hP hP0 hr1 hrp hne h
    rintro ⟨⟨k, c, e, r⟩, ⟨hk0, hk⟩, hne, h1, h2⟩ hn
    dsimp only at hk0 hk hne h1 h2 hn ⊢
    refine gwp_ok mxd ?_
    have hrp : r ≠ rp := ne_of_new hn (by rw [hget_old hr5]; exact hget_set hr)
    by_cases ho : opB ts c k lv = 0
    · have hst : (if opB ts c k lv ≠ 0 then k + 1 else k) = k := if_neg (fun h => h ho)
      rw [hst]
      have hRk : R.at = k ∧ R.err = c ∧ ∀ a j, R = .ok a j → e = a := by
        cases c with
        | true => rw [h1 rfl]; exact ⟨rfl, rfl, fun a j h => by cases h⟩
        | false =>
          obtain ⟨F, hF, hs⟩ := h2 rfl
          obtain ⟨F, rfl⟩ : ∃ G, F = G + 1 := ⟨F - 1, by omega⟩
          simp only [rowP] at hs
          rw [if_pos (show Go.Gh.opAt ts k lv = 0 from ho)] at hs
          subst hs
          exact ⟨rfl, rfl, fun a j h => by cases h; rfl⟩
      ((try with_reducible refine mkQI ?_); (repeat ((first | (with_reducible refine mkQU ?_) | simp only [brGen]); try simp (maxSteps := 4000000) +contextual only [↓ S2, S2, vIte, ↓reduceIte, Int.reduceNe, Nat.reduceEqDiff, reduceCtorEq, Nat.reduceLeDiff, Nat.reduceAdd, Nat.reduceLT, hget_c, hset_c, hdel_c, neN, neA_cons, neA_nil, ho, hne])); (try simp +contextual (disch := omega) only [Z2, ho, hne]); (repeat' (first | (with_reducible intro h) | (with_reducible refine And.intro (by omega) ?_) | (with_reducible refine exP (by omega) ?_) | (with_reducible apply And.intro))))
      all_goals try (exfalso; omega)
      all_goals exact ⟨e, r, r5, _, hne, rfl, by rw [hRk.1, hRk.2.1], hRk.2.2⟩
    · have hst : (if opB ts c k lv ≠ 0 then k + 1 else k) = k + 1 := if_pos ho
      rw [hst]
      obtain rfl : c = false := by
        cases c with
        | true => exact absurd rfl ho
        | false => rfl
      have hlt : k < ts.length := by
        rcases Nat.lt_or_ge k ts.length with h | h
        · exact h
        · exact absurd (opB_ge h lv) ho
      obtain ⟨F, hF, hs⟩ := h2 rfl
      obtain ⟨F, rfl⟩ : ∃ G, F = G + 1 := ⟨F - 1, by omega⟩
      simp only [rowP] at hs
      rw [if_neg (show ¬ Go.Gh.opAt ts k lv = 0 from ho)] at hs
      have hop : Go.Gh.opAt ts k lv = opB ts false k lv := rfl
      rw [hop] at hs
      have hbd := hXb (k + 1) (by omega)
      have hg0 := hget_set (fs := [PaG ts (k + 1) false]) hr
      have hx := hX (k + 1) false rp ((r, 7, e.args.map ExO) :: (r5, 7, [EO r e]) :: hset H rp [PaG ts (k + 1) false]) (by omega) (by omega) (by rw [hget_old hrp, hget_old hr5]; exact hg0)
      rw [frm_f] at hx
      generalize hXX : X (k + 1) = Q at *
      generalize opB ts false k lv = o at *
      have hne' : r5 ≠ r := Ne.symm hne
      ((try with_reducible refine mkQI ?_); (repeat ((first | (with_reducible refine mkQU ?_) | simp only [brGen]); try simp (maxSteps := 4000000) +contextual only [↓ S2, S2, vIte, ↓reduceIte, Int.reduceNe, Nat.reduceEqDiff, reduceCtorEq, Nat.reduceLeDiff, Nat.reduceAdd, Nat.reduceLT, hget_c, hset_c, hdel_c, neN, neA_cons, neA_nil, ho, hne, hne'])); (try simp +contextual (disch := omega) only [Z2, ho, hne, hne']); (repeat' (first | (with_reducible intro h) | (with_reducible refine And.intro (by omega) ?_) | (with_reducible refine exP (by omega) ?_) | (with_reducible apply And.intro))))
      all_goals try (exfalso; omega)
      refine callK.of hx ?_
      rintro g H' ⟨e2, q, rfl, rfl, he2⟩ hq
      have hqr5 : q ≠ r5 := ne_of_new hq (by rw [hset_old hrp, hset_old hr5, hget_old hne]; exact hget_new)
      have hqr : q ≠ r := ne_of_new hq (by rw [hset_old hrp, hset_old hr5]; exact hget_new)
      rw [hset_old hrp, hset_old hr5, hset_set]
      refine ⟨⟨by simp [kpt1, eget, hget_old hqr5, hget_old hne, hget_new], trivial⟩, ?_⟩
      ((try with_reducible refine mkQI ?_); (repeat ((first | (with_reducible refine mkQU ?_) | simp only [brGen]); try simp (maxSteps := 4000000) +contextual only [↓ S2, S2, vIte, ↓reduceIte, Int.reduceNe, Nat.reduceEqDiff, reduceCtorEq, Nat.reduceLeDiff, Nat.reduceAdd, Nat.reduceLT, hget_c, hset_c, hdel_c, neN, neA_cons, neA_nil, ])); (try simp +contextual (disch := omega) only [Z2, ]); (repeat' (first | (with_reducible intro h) | (with_reducible refine And.intro (by omega) ?_) | (with_reducible refine exP (by omega) ?_) | (with_reducible apply And.intro))))
      have hgr : hget ((q, 7, e2.args.map ExO) :: (r, 7, e.args.map ExO) :: (r5, 7, [EO r e]) :: hset H rp [PaG ts Q.at Q.err]) r = some (7, e.args.map ExO) := by rw [hget_old hqr]; exact hget_new
      refine callS.of (o68 o e e2 r q _ (Ne.symm hqr) hgr hget_new) ?_
      rintro g H' ⟨r3, rfl, rfl⟩ hn3
      have hd : hdel (hdel ((q, 7, e2.args.map ExO) :: (r, 7, e.args.map ExO) :: (r5, 7, [EO r e]) :: hset H rp [PaG ts Q.at Q.err]) r) q = (r5, 7, [EO r e]) :: hset H rp [PaG ts Q.at Q.err] := by simp [hdel, hqr]
      rw [hd] at hn3 ⊢
      have h35 : r3 ≠ r5 := ne_of_new hn3 hget_new
      have hg2 := hget_set (fs := [PaG ts Q.at Q.err]) hr
      have h3p : r3 ≠ rp := ne_of_new hn3 (by rw [hget_old hr5]; exact hg2)
      ((try with_reducible refine mkQI ?_); (repeat ((first | (with_reducible refine mkQU ?_) | simp only [brGen]); try simp (maxSteps := 4000000) +contextual only [↓ S2, S2, vIte, ↓reduceIte, Int.reduceNe, Nat.reduceEqDiff, reduceCtorEq, Nat.reduceLeDiff, Nat.reduceAdd, Nat.reduceLT, hget_c, hset_c, hdel_c, neN, neA_cons, neA_nil, h35])); (try simp +contextual (disch := omega) only [Z2, h35]); (repeat' (first | (with_reducible intro h) | (with_reducible refine And.intro (by omega) ?_) | (with_reducible refine exP (by omega) ?_) | (with_reducible apply And.intro))))
      all_goals try (exfalso; omega)
      have hQ : Q.at ≤ ts.length := hbd.2
      have hQ1 : k + 1 ≤ Q.at := hbd.1
      refine callS.of (w67 ts hl ht Q.at hQ Q.err lv (by omega) h3 rp _ (by rw [hget_old h3p, hget_old hr5]; exact hg2)) ?_
      rintro _ _ ⟨rfl, rfl⟩ _
      rw [hset_old h3p, hset_old hr5, hset_set]
      ((try with_reducible refine mkQI ?_); (repeat ((first | (with_reducible refine mkQU ?_) | simp only [brGen]); try simp (maxSteps := 4000000) +contextual only [↓ S2, S2, vIte, ↓reduceIte, Int.reduceNe, Nat.reduceEqDiff, reduceCtorEq, Nat.reduceLeDiff, Nat.reduceAdd, Nat.reduceLT, hget_c, hset_c, hdel_c, neN, neA_cons, neA_nil, ])); (try simp +contextual (disch := omega) only [Z2, ]); (repeat' (first | (with_reducible intro h) | (with_reducible refine And.intro (by omega) ?_) | (with_reducible refine exP (by omega) ?_) | (with_reducible apply And.intro))))
      have hn1 : Q.err = true → R = .bad Q.at := fun h => by
        cases Q with
        | bad j => exact hs.symm
        | ok a j => cases h
      have hn2 : Q.err = false → ∃ F, ts.length - Q.at < F ∧ rowP ts X lv F (opE o e e2) Q.at = R := fun h => by
        cases Q with
        | bad j => cases h
        | ok a j =>
          obtain rfl := he2 a j rfl
          simp only [PR.bind] at hs
          rw [if_neg (by omega)] at hs
          have hQ1 : k + 1 ≤ j := hQ1
          exact ⟨F, by show ts.length - j < F; omega, hs⟩
      exact nx ⟨(Q.at, Q.err, opE o e e2, r3), ⟨by show i0 ≤ Q.at; omega, hQ⟩, h35, hn1, hn2⟩ (by dsimp only; simp only [Bool.false_eq_true, if_false]; split <;> omega) (by simp [E2]) rfl
  refine h0.fr ?_
  rintro g H' ⟨e, r, r5, u, hne, rfl, rfl, he⟩
  exact ⟨_, _, FR.perm (H := [(r, 7, e.args.map ExO), (r5, 7, u)]) (L := [(r, 7, e.args.map ExO)]) (by simp [subH, hget, names]), e, r, rfl, rfl, he⟩
end Go.Proofs.YtkmedfejmndmjaaGreatDoor

