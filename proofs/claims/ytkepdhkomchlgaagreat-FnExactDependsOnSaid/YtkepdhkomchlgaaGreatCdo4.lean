/- The law FnExactDependsOn returns true whatever the input, and the input reads behind the call as before. No condition. -/
import Derived.Test.YtkepdhkomchlgaaGreatCdo3
namespace Go.Proofs.YtkepdhkomchlgaaGreat
open Go.Gh
set_option maxRecDepth 20000
set_option linter.unusedSimpArgs false
set_option linter.unusedVariables false
theorem o106 (x : Nod) (hx : x.kids.length ≤ 1048576) (H : GH) : GCalls Tryz.prog 106 [Nd x] H (fun g H' => ∃ r, g = .agg [I x.id, I x.parent, I x.place, I x.lit, T x.rule, .own r 1 0 x.kids.length] ∧ H' = (r, 1, x.kids.map I) :: H) := by
  have h0 : GCalls Tryz.prog 106 [Nd x] H (fun g H' => ∃ r r0 e, r ≠ r0 ∧ g = .agg [I x.id, I x.parent, I x.place, I x.lit, T x.rule, .own r 1 0 x.kids.length] ∧ H' = (r, 1, x.kids.map I) :: (r0, 6, e) :: H) := by
    refine gstart mxd i106 rfl (by simp) ?_; simp (maxSteps := 2000000) only [↓ S2, S2, vIte, ↓reduceIte, Int.reduceNe, Nat.reduceEqDiff, reduceCtorEq, Nat.reduceLeDiff, Nat.reduceAdd, Nat.reduceLT]
    intro r0 hr0
    refine callS.of (o45 _ hx _) ?_
    rintro g H' ⟨r, rfl, rfl⟩ hn
    have hne : r ≠ r0 := ne_of_new hn hget_new
    ((try with_reducible refine mkQI ?_); (repeat ((first | (with_reducible refine mkQU ?_) | simp only [brGen]); try simp (maxSteps := 2000000) only [↓ S2, S2, vIte, ↓reduceIte, Int.reduceNe, Nat.reduceEqDiff, reduceCtorEq, Nat.reduceLeDiff, Nat.reduceAdd, Nat.reduceLT, hget_old hne, hset_old hne])); (try simp +contextual (disch := omega) only [Z2, hget_old hne, hset_old hne]); (repeat' (first | (with_reducible intro h) | (with_reducible refine And.intro (by omega) ?_) | (with_reducible refine exP (by omega) ?_) | (with_reducible apply And.intro))))
    exact ⟨r, r0, _, hne, rfl, rfl⟩
  refine h0.fr ?_
  rintro g H' ⟨r, r0, e, hne, rfl, rfl⟩
  refine ⟨_, _, FR.drop (r := r0) (by rw [hget_old hne, hget_new]), r, rfl, by rw [hdel_old hne, hdel_new]⟩
theorem o55 (xs : List Nod) (hl : xs.length ≤ 1048576) (hx : ∀ x ∈ xs, x.kids.length ≤ 1048576) (H : GH) : GCalls Tryz.prog 55 [NdS xs] H (fun g H' => ∃ r, g = .own r 6 0 xs.length ∧ H' = (r, 6, xs.map NdO) :: H) := by
  refine gstart mxd i55 rfl (by simp) ?_; simp (maxSteps := 2000000) only [↓ S2, S2, vIte, ↓reduceIte, Int.reduceNe, Nat.reduceEqDiff, reduceCtorEq, Nat.reduceLeDiff, Nat.reduceAdd, Nat.reduceLT]
  refine ⟨by omega, by omega, by omega, by omega, fun r hr => ?_⟩
  refine wloop mxd (ι := { i : Nat // i ≤ xs.length }) (fun i => [(0, NdS xs), (3, .own r 6 0 xs.length), (4, I i.1)]) (fun i => (r, 6, (xs.take i.1).map NdO ++ List.replicate (xs.length - i.1) (.agg [I 0, I 0, I 0, I 0, T (ByteArray.mk #[]), .val (.slice none 0 0)])) :: H) (fun i => xs.length - i.1) ⟨0, by simp⟩ (by simp [E2]) (by simp) ?_
  rintro ⟨i, hi⟩
  ((try with_reducible refine mkQI ?_); (repeat ((first | (with_reducible refine mkQU ?_) | simp only [brGen]); try simp (maxSteps := 2000000) only [↓ S2, S2, vIte, ↓reduceIte, Int.reduceNe, Nat.reduceEqDiff, reduceCtorEq, Nat.reduceLeDiff, Nat.reduceAdd, Nat.reduceLT])); (try simp +contextual (disch := omega) only [Z2]); (repeat' (first | (with_reducible intro h) | (with_reducible refine And.intro (by omega) ?_) | (with_reducible refine exP (by omega) ?_) | (with_reducible apply And.intro))))
  · refine callS.of (o106 xs[i] (hx _ (List.getElem_mem _)) _) ?_
    rintro g H' ⟨r1, rfl, rfl⟩ hn
    have hne : r1 ≠ r := ne_of_new hn hget_new
    ((try with_reducible refine mkQI ?_); (repeat ((first | (with_reducible refine mkQU ?_) | simp only [brGen]); try simp (maxSteps := 2000000) only [↓ S2, S2, vIte, ↓reduceIte, Int.reduceNe, Nat.reduceEqDiff, reduceCtorEq, Nat.reduceLeDiff, Nat.reduceAdd, Nat.reduceLT, hget_old hne, hset_old hne, stw])); (try simp +contextual (disch := omega) only [Z2, hget_old hne, hset_old hne, stw]); (repeat' (first | (with_reducible intro h) | (with_reducible refine And.intro (by omega) ?_) | (with_reducible refine exP (by omega) ?_) | (with_reducible apply And.intro))))
    refine exP (by simp; omega) (nxF ⟨i + 1, by omega⟩ (by simp; omega) (FE.close2 (j := 5) hne (by simp; omega) rfl (by simp)) (by simp [E2]) ?_)
    have e := fill_set xs NdO (.agg [I 0, I 0, I 0, I 0, T (ByteArray.mk #[]), .val (.slice none 0 0)]) i h
    rw [← e]
    rfl
  · have : i = xs.length := by omega
    subst this
    exact ⟨r, rfl, by simp⟩
theorem o16 (t : List Nod) (hl : t.length ≤ 1048576) (hx : ∀ x ∈ t, x.kids.length ≤ 1048576) (H : GH) : GCalls Tryz.prog 16 [Tr t] H (fun g H' => ∃ r, g = .agg [.own r 6 0 t.length] ∧ H' = (r, 6, t.map NdO) :: H) := by
  have h0 : GCalls Tryz.prog 16 [Tr t] H (fun g H' => ∃ r r0 e, r ≠ r0 ∧ g = .agg [.own r 6 0 t.length] ∧ H' = (r, 6, t.map NdO) :: (r0, 1, e) :: H) := by
    refine gstart mxd i16 rfl (by simp) ?_; simp (maxSteps := 2000000) only [↓ S2, S2, vIte, ↓reduceIte, Int.reduceNe, Nat.reduceEqDiff, reduceCtorEq, Nat.reduceLeDiff, Nat.reduceAdd, Nat.reduceLT]
    intro r0 hr0
    refine callS.of (o55 _ hl hx _) ?_
    rintro g H' ⟨r, rfl, rfl⟩ hn
    have hne : r ≠ r0 := ne_of_new hn hget_new
    ((try with_reducible refine mkQI ?_); (repeat ((first | (with_reducible refine mkQU ?_) | simp only [brGen]); try simp (maxSteps := 2000000) only [↓ S2, S2, vIte, ↓reduceIte, Int.reduceNe, Nat.reduceEqDiff, reduceCtorEq, Nat.reduceLeDiff, Nat.reduceAdd, Nat.reduceLT, hget_old hne, hset_old hne])); (try simp +contextual (disch := omega) only [Z2, hget_old hne, hset_old hne]); (repeat' (first | (with_reducible intro h) | (with_reducible refine And.intro (by omega) ?_) | (with_reducible refine exP (by omega) ?_) | (with_reducible apply And.intro))))
    exact ⟨r, r0, _, hne, rfl, rfl⟩
  refine h0.fr ?_
  rintro g H' ⟨r, r0, e, hne, rfl, rfl⟩
  refine ⟨_, _, FR.drop (r := r0) (by rw [hget_old hne, hget_new]), r, rfl, by rw [hdel_old hne, hdel_new]⟩
end Go.Proofs.YtkepdhkomchlgaaGreat

