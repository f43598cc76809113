/- The law FnHeights returns true whatever the input, and the input reads behind the call as before. No condition. -/
import Derived.Test.YtkmedfejmndmjaaFhe1
set_option linter.unusedSimpArgs false
set_option linter.unusedVariables false
namespace Go.Proofs.Ytkmedfejmndmjaa
open Go.Gh
set_option maxRecDepth 20000
set_option linter.unusedSimpArgs false
set_option linter.unusedVariables false
theorem o16 (bs : List UInt8) (hb : bs.length ≤ 1048576) (H : GH) : GCalls Try.prog 16 [Bs bs] H (fun g H' => ∃ rc, g = .ptr rc 3 0 0 ∧ H' = (rc, 3, [.cur]) :: H) := by
  refine GCalls.fr (R := fun g H' => ∃ rc e, isC e ∧ g = .ptr rc 3 0 0 ∧ H' = (rc, 3, [e]) :: H) ?_ (fun g H' ⟨rc, e, h1, h2, h3⟩ => by subst h3; exact ⟨g, _, FR.uncur h1, rc, h2, rfl⟩)
  refine gstart mxd i16 rfl (by simp) ?_; simp (maxSteps := 2000000) only [↓ S2, S2, vIte, ↓reduceIte, Int.reduceNe, Nat.reduceEqDiff, reduceCtorEq, Nat.reduceLeDiff, Nat.reduceAdd, Nat.reduceLT]
  ((try with_reducible refine mkQI ?_); (repeat ((first | (with_reducible refine mkQU ?_) | simp only [brGen]); try simp (maxSteps := 4000000) +contextual only [↓ S2, S2, vIte, ↓reduceIte, Int.reduceNe, Nat.reduceEqDiff, reduceCtorEq, Nat.reduceLeDiff, Nat.reduceAdd, Nat.reduceLT, hget_c, hset_c, hdel_c, neN, neA_cons, neA_nil, ])); (try simp +contextual (disch := omega) only [Z2, ]); (repeat' (first | (with_reducible intro h) | (with_reducible refine And.intro (by omega) ?_) | (with_reducible refine exP (by omega) ?_) | (with_reducible apply And.intro))))
  refine wloop mxd (ι := { x : Nat × Int // x.1 ≤ bs.length }) (fun x => [(0, Bs bs), (3, I x.1.2), (4, I x.1.1)]) (fun _ => H) (fun x => bs.length - x.1.1) ⟨(0, 26583 + bs.length), by simp⟩ (by simp [E2]) rfl ?_
  rintro ⟨⟨i, h⟩, hi⟩
  dsimp only at hi ⊢
  ((try with_reducible refine mkQI ?_); (repeat ((first | (with_reducible refine mkQU ?_) | simp only [brGen]); try simp (maxSteps := 4000000) +contextual only [↓ S2, S2, vIte, ↓reduceIte, Int.reduceNe, Nat.reduceEqDiff, reduceCtorEq, Nat.reduceLeDiff, Nat.reduceAdd, Nat.reduceLT, hget_c, hset_c, hdel_c, neN, neA_cons, neA_nil, ])); (try simp +contextual (disch := omega) only [Z2, ]); (repeat' (first | (with_reducible intro h) | (with_reducible refine And.intro (by omega) ?_) | (with_reducible refine exP (by omega) ?_) | (with_reducible apply And.intro))))
  all_goals try (exfalso; omega)
  · exact nx ⟨(i + 1, _), by dsimp only; omega⟩ (by simp <;> omega) (by simp [E2]; rfl) rfl
  all_goals exact ⟨_, _, ⟨bs, 0, _, rfl, by omega, by omega, by omega⟩, rfl, rfl⟩
theorem w32 : Dv Try.prog 32 [] (fun g => ∃ k : Nat, k < 256 ∧ g = I k) := by
  refine fun rc H => GCalls.open fun e he => ?_
  refine GCalls.fr (R := fun g H' => (∃ k : Nat, k < 256 ∧ g = I k) ∧ ∃ e, isC e ∧ H' = (rc, 3, [e]) :: H) ?_ (fun g H' ⟨h1, e', h2, h3⟩ => by subst h3; exact ⟨g, _, FR.uncur h2, [], ⟨h1, rfl⟩, rfl⟩)
  obtain ⟨bs, i, h, rfl, h0, h1, h2⟩ := he
  obtain ⟨i, rfl⟩ := Int.eq_ofNat_of_zero_le h0
  refine gstart mxd i32 rfl (by simp) ?_; simp (maxSteps := 2000000) only [↓ S2, S2, vIte, ↓reduceIte, Int.reduceNe, Nat.reduceEqDiff, reduceCtorEq, Nat.reduceLeDiff, Nat.reduceAdd, Nat.reduceLT]
  ((try with_reducible refine mkQI ?_); (repeat ((first | (with_reducible refine mkQU ?_) | simp only [brGen]); try simp (maxSteps := 4000000) +contextual only [↓ S2, S2, vIte, ↓reduceIte, Int.reduceNe, Nat.reduceEqDiff, reduceCtorEq, Nat.reduceLeDiff, Nat.reduceAdd, Nat.reduceLT, hget_c, hset_c, hdel_c, neN, neA_cons, neA_nil, ])); (try simp +contextual (disch := omega) only [Z2, ]); (repeat' (first | (with_reducible intro h) | (with_reducible refine And.intro (by omega) ?_) | (with_reducible refine exP (by omega) ?_) | (with_reducible apply And.intro))))
  all_goals first
    | exact ⟨_, ⟨bs, _, _, rfl, by omega, by omega, h2⟩, rfl⟩
    | (obtain ⟨k, hk, hk2⟩ := andI_255 _; exact ⟨k, hk2, by rw [hk]⟩)
theorem w23 (n : Int) : Dv Try.prog 23 [I n] (fun g => ∃ k : Int, 0 ≤ k ∧ (0 < n → k < n) ∧ (n ≤ 0 → k = 0) ∧ g = I k) := by
  refine Dv.of0 fun rc H => ?_
  refine gstart mxd i23 rfl (by simp) ?_; simp (maxSteps := 2000000) only [↓ S2, S2, vIte, ↓reduceIte, Int.reduceNe, Nat.reduceEqDiff, reduceCtorEq, Nat.reduceLeDiff, Nat.reduceAdd, Nat.reduceLT]
  ((try with_reducible refine mkQI ?_); (repeat ((first | (with_reducible refine mkQU ?_) | simp only [brGen]); try simp (maxSteps := 4000000) +contextual only [↓ S2, S2, vIte, ↓reduceIte, Int.reduceNe, Nat.reduceEqDiff, reduceCtorEq, Nat.reduceLeDiff, Nat.reduceAdd, Nat.reduceLT, hget_c, hset_c, hdel_c, neN, neA_cons, neA_nil, ])); (try simp +contextual (disch := omega) only [Z2, ]); (repeat' (first | (with_reducible intro h) | (with_reducible refine And.intro (by omega) ?_) | (with_reducible refine exP (by omega) ?_) | (with_reducible apply And.intro))))
  · exact ⟨0, by omega, by omega, by omega, rfl⟩
  · refine callS.dv w32 hget_new ?_
    rintro _ ⟨k, hk, rfl⟩
    ((try with_reducible refine mkQI ?_); (repeat ((first | (with_reducible refine mkQU ?_) | simp only [brGen]); try simp (maxSteps := 4000000) +contextual only [↓ S2, S2, vIte, ↓reduceIte, Int.reduceNe, Nat.reduceEqDiff, reduceCtorEq, Nat.reduceLeDiff, Nat.reduceAdd, Nat.reduceLT, hget_c, hset_c, hdel_c, neN, neA_cons, neA_nil, ])); (try simp +contextual (disch := omega) only [Z2, ]); (repeat' (first | (with_reducible intro h) | (with_reducible refine And.intro (by omega) ?_) | (with_reducible refine exP (by omega) ?_) | (with_reducible apply And.intro))))
    exact ⟨_, Int.tmod_nonneg _ (by omega), fun _ => Int.tmod_lt_of_pos _ (by omega), rfl⟩
  · refine callS.dv w32 hget_new ?_
    rintro _ ⟨k1, hk1, rfl⟩
    ((try with_reducible refine mkQI ?_); (repeat ((first | (with_reducible refine mkQU ?_) | simp only [brGen]); try simp (maxSteps := 4000000) +contextual only [↓ S2, S2, vIte, ↓reduceIte, Int.reduceNe, Nat.reduceEqDiff, reduceCtorEq, Nat.reduceLeDiff, Nat.reduceAdd, Nat.reduceLT, hget_c, hset_c, hdel_c, neN, neA_cons, neA_nil, ])); (try simp +contextual (disch := omega) only [Z2, ]); (repeat' (first | (with_reducible intro h) | (with_reducible refine And.intro (by omega) ?_) | (with_reducible refine exP (by omega) ?_) | (with_reducible apply And.intro))))
    refine callS.dv w32 hget_new ?_
    rintro _ ⟨k2, hk2, rfl⟩
    ((try with_reducible refine mkQI ?_); (repeat ((first | (with_reducible refine mkQU ?_) | simp only [brGen]); try simp (maxSteps := 4000000) +contextual only [↓ S2, S2, vIte, ↓reduceIte, Int.reduceNe, Nat.reduceEqDiff, reduceCtorEq, Nat.reduceLeDiff, Nat.reduceAdd, Nat.reduceLT, hget_c, hset_c, hdel_c, neN, neA_cons, neA_nil, ])); (try simp +contextual (disch := omega) only [Z2, ]); (repeat' (first | (with_reducible intro h) | (with_reducible refine And.intro (by omega) ?_) | (with_reducible refine exP (by omega) ?_) | (with_reducible apply And.intro))))
    refine callS.dv w32 hget_new ?_
    rintro _ ⟨k3, hk3, rfl⟩
    ((try with_reducible refine mkQI ?_); (repeat ((first | (with_reducible refine mkQU ?_) | simp only [brGen]); try simp (maxSteps := 4000000) +contextual only [↓ S2, S2, vIte, ↓reduceIte, Int.reduceNe, Nat.reduceEqDiff, reduceCtorEq, Nat.reduceLeDiff, Nat.reduceAdd, Nat.reduceLT, hget_c, hset_c, hdel_c, neN, neA_cons, neA_nil, ])); (try simp +contextual (disch := omega) only [Z2, ]); (repeat' (first | (with_reducible intro h) | (with_reducible refine And.intro (by omega) ?_) | (with_reducible refine exP (by omega) ?_) | (with_reducible apply And.intro))))
    refine callS.dv w32 hget_new ?_
    rintro _ ⟨k4, hk4, rfl⟩
    ((try with_reducible refine mkQI ?_); (repeat ((first | (with_reducible refine mkQU ?_) | simp only [brGen]); try simp (maxSteps := 4000000) +contextual only [↓ S2, S2, vIte, ↓reduceIte, Int.reduceNe, Nat.reduceEqDiff, reduceCtorEq, Nat.reduceLeDiff, Nat.reduceAdd, Nat.reduceLT, hget_c, hset_c, hdel_c, neN, neA_cons, neA_nil, ])); (try simp +contextual (disch := omega) only [Z2, ]); (repeat' (first | (with_reducible intro h) | (with_reducible refine And.intro (by omega) ?_) | (with_reducible refine exP (by omega) ?_) | (with_reducible apply And.intro))))
    exact ⟨_, Int.tmod_nonneg _ (by omega), fun _ => Int.tmod_lt_of_pos _ (by omega), rfl⟩
theorem wz23 (n : Int) (hn : 0 < n) : Dv Try.prog 23 [I n] (fun g => ∃ k : Nat, (k : Int) < n ∧ g = I k) :=
  (w23 n).mono fun g H1 ⟨⟨k, h0, h1, _, h2⟩, h3⟩ => ⟨⟨k.toNat, by have := h1 hn; omega, by rw [h2, Int.toNat_of_nonneg h0]⟩, h3⟩
theorem w22 (n : Int) : Dv Try.prog 22 [I n] (fun g => ∃ b : Bool, g = B b) := by
  refine Dv.of0 fun rc H => ?_
  refine gstart mxd i22 rfl (by simp) ?_; simp (maxSteps := 2000000) only [↓ S2, S2, vIte, ↓reduceIte, Int.reduceNe, Nat.reduceEqDiff, reduceCtorEq, Nat.reduceLeDiff, Nat.reduceAdd, Nat.reduceLT]
  refine callS.dv (w23 n) hget_new ?_
  rintro _ ⟨k, h0, h1, h2, rfl⟩
  ((try with_reducible refine mkQI ?_); (repeat ((first | (with_reducible refine mkQU ?_) | simp only [brGen]); try simp (maxSteps := 4000000) +contextual only [↓ S2, S2, vIte, ↓reduceIte, Int.reduceNe, Nat.reduceEqDiff, reduceCtorEq, Nat.reduceLeDiff, Nat.reduceAdd, Nat.reduceLT, hget_c, hset_c, hdel_c, neN, neA_cons, neA_nil, ])); (try simp +contextual (disch := omega) only [Z2, ]); (repeat' (first | (with_reducible intro h) | (with_reducible refine And.intro (by omega) ?_) | (with_reducible refine exP (by omega) ?_) | (with_reducible apply And.intro))))
  exact ⟨_, rfl⟩
theorem w18 (es : List GV) (ha : noAg es = true) (hl : 0 < es.length) : Dv Try.prog 18 [.sl 1 es] (fun g => g ∈ es) := by
  refine Dv.of0 fun rc H => ?_
  have hA := notAgg ha
  have hB := notRaw ha
  refine gstart mxd i18 rfl (by simp) ?_; simp (maxSteps := 2000000) only [↓ S2, S2, vIte, ↓reduceIte, Int.reduceNe, Nat.reduceEqDiff, reduceCtorEq, Nat.reduceLeDiff, Nat.reduceAdd, Nat.reduceLT]
  refine callS.dv (w23 es.length) hget_new ?_
  rintro _ ⟨k, h0, h1, h2, rfl⟩
  obtain ⟨k, rfl⟩ := Int.eq_ofNat_of_zero_le h0
  ((try with_reducible refine mkQI ?_); (repeat ((first | (with_reducible refine mkQU ?_) | simp only [brGen]); try simp (maxSteps := 4000000) +contextual only [↓ S2, S2, vIte, ↓reduceIte, Int.reduceNe, Nat.reduceEqDiff, reduceCtorEq, Nat.reduceLeDiff, Nat.reduceAdd, Nat.reduceLT, hget_c, hset_c, hdel_c, neN, neA_cons, neA_nil, hA, hB])); (try simp +contextual (disch := omega) only [Z2, hA, hB]); (repeat' (first | (with_reducible intro h) | (with_reducible refine And.intro (by omega) ?_) | (with_reducible refine exP (by omega) ?_) | (with_reducible apply And.intro))))
  all_goals try (exfalso; omega)
  exact List.getElem_mem _
theorem w37 (es : List GV) (ha : noAg es = true) (hl : 0 < es.length) : Dv Try.prog 37 [.sl 1 es] (fun g => g ∈ es) := by
  refine Dv.of0 fun rc H => ?_
  have hA := notAgg ha
  have hB := notRaw ha
  refine gstart mxd i37 rfl (by simp) ?_; simp (maxSteps := 2000000) only [↓ S2, S2, vIte, ↓reduceIte, Int.reduceNe, Nat.reduceEqDiff, reduceCtorEq, Nat.reduceLeDiff, Nat.reduceAdd, Nat.reduceLT]
  refine callS.dv (w23 es.length) hget_new ?_
  rintro _ ⟨k, h0, h1, h2, rfl⟩
  obtain ⟨k, rfl⟩ := Int.eq_ofNat_of_zero_le h0
  ((try with_reducible refine mkQI ?_); (repeat ((first | (with_reducible refine mkQU ?_) | simp only [brGen]); try simp (maxSteps := 4000000) +contextual only [↓ S2, S2, vIte, ↓reduceIte, Int.reduceNe, Nat.reduceEqDiff, reduceCtorEq, Nat.reduceLeDiff, Nat.reduceAdd, Nat.reduceLT, hget_c, hset_c, hdel_c, neN, neA_cons, neA_nil, hA, hB])); (try simp +contextual (disch := omega) only [Z2, hA, hB]); (repeat' (first | (with_reducible intro h) | (with_reducible refine And.intro (by omega) ?_) | (with_reducible refine exP (by omega) ?_) | (with_reducible apply And.intro))))
  all_goals try (exfalso; omega)
  exact List.getElem_mem _
theorem w45 : Dv Try.prog 45 [] (fun g => ∃ s, shT s ∧ g = T s) := by
  refine Dv.of0 fun rc H => ?_
  refine gstart mxd i45 rfl (by simp) ?_; simp (maxSteps := 2000000) only [↓ S2, S2, vIte, ↓reduceIte, Int.reduceNe, Nat.reduceEqDiff, reduceCtorEq, Nat.reduceLeDiff, Nat.reduceAdd, Nat.reduceLT]
  refine callS.dv (w18 _ rfl (by simp)) hget_new ?_
  rintro _ hg
  obtain ⟨s, hs, rfl⟩ := ltT_mem rfl hg
  ((try with_reducible refine mkQI ?_); (repeat ((first | (with_reducible refine mkQU ?_) | simp only [brGen]); try simp (maxSteps := 4000000) +contextual only [↓ S2, S2, vIte, ↓reduceIte, Int.reduceNe, Nat.reduceEqDiff, reduceCtorEq, Nat.reduceLeDiff, Nat.reduceAdd, Nat.reduceLT, hget_c, hset_c, hdel_c, neN, neA_cons, neA_nil, ])); (try simp +contextual (disch := omega) only [Z2, ]); (repeat' (first | (with_reducible intro h) | (with_reducible refine And.intro (by omega) ?_) | (with_reducible refine exP (by omega) ?_) | (with_reducible apply And.intro))))
  exact ⟨s, hs, rfl⟩
end Go.Proofs.Ytkmedfejmndmjaa

