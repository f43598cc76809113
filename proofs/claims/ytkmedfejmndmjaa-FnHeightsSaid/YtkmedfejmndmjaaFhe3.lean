/- The law FnHeights returns true whatever the input, and the input reads behind the call as before. No condition. -/
import Derived.Test.YtkmedfejmndmjaaFhe2
set_option linter.unusedSimpArgs false
set_option linter.unusedVariables false
namespace Go.Proofs.Ytkmedfejmndmjaa
open Go.Gh
set_option maxRecDepth 20000
set_option linter.unusedSimpArgs false
set_option linter.unusedVariables false
set_option maxHeartbeats 20000000 in
theorem w54 (e : Exp) (hl : e.args.length ≤ 1048576) (ho : okE e) : Pure Try.prog 54 [Ex e] (· = B (nodeV e)) := by
  obtain ⟨hs, hm, _⟩ := okE_eq.1 ho
  have hk : e.kind = 1 ∨ e.kind = 2 ∨ e.kind = 3 ∨ e.kind = 4 ∨ e.kind = 5 ∨ e.kind = 6 ∨ e.kind = 7 ∨ e.kind = 8 ∨ (¬ (1 ≤ e.kind ∧ e.kind ≤ 8)) := by omega
  rcases hk with hk | hk | hk | hk | hk | hk | hk | hk | hk
  all_goals
    refine gstart mxd i54 rfl (by simp) ?_; simp (maxSteps := 2000000) only [↓ S2, S2, vIte, ↓reduceIte, Int.reduceNe, Nat.reduceEqDiff, reduceCtorEq, Nat.reduceLeDiff, Nat.reduceAdd, Nat.reduceLT]
    (repeat' (first | (with_reducible refine callS.eq (w51 _ _ _) ?_) | (with_reducible refine callS.eq (w55 e hl) ?_) | (with_reducible refine callS.eq (w56 _ _) ?_) | (with_reducible refine callS.eq (w57 _ hs) ?_) | (with_reducible refine callS.eq (w57 _ hm) ?_) | simp (maxSteps := 2000000) only [↓ S2, S2, vIte, ↓reduceIte, Int.reduceNe, Nat.reduceEqDiff, reduceCtorEq, Nat.reduceLeDiff, Nat.reduceAdd, Nat.reduceLT, XE, hk] | simp only [brGen] | simp +contextual (disch := omega) only [Z2] | (with_reducible intro h) | (with_reducible refine And.intro (by omega) ?_) | (with_reducible refine exP (by omega) ?_) | (with_reducible apply And.intro)))
    all_goals try (exfalso; omega)
    all_goals first
      | (simp_all [nodeV]; done)
      | (simp_all [nodeV]; intros; omega)
      | (congr 2; rw [Bool.eq_iff_iff]; simp [nodeV, hk, *]; done)
theorem w50 : ∀ e : Exp, okE e → wEx e ≤ 1048576 → Pure Try.prog 50 [Ex e] (· = B (allE nodeV e)) := by
  refine Exp.indA fun e ih ho hw => ?_
  obtain ⟨hl, ha⟩ := args_small hw
  obtain ⟨_, _, hoa⟩ := okE_eq.1 ho
  refine gstart mxd i50 rfl (by simp) ?_; simp (maxSteps := 2000000) only [↓ S2, S2, vIte, ↓reduceIte, Int.reduceNe, Nat.reduceEqDiff, reduceCtorEq, Nat.reduceLeDiff, Nat.reduceAdd, Nat.reduceLT]
  simp (maxSteps := 2000000) only [↓ S2, S2, vIte, ↓reduceIte, Int.reduceNe, Nat.reduceEqDiff, reduceCtorEq, Nat.reduceLeDiff, Nat.reduceAdd, Nat.reduceLT, XE]
  refine wloop mxd (ι := { i : Nat // i ≤ e.args.length ∧ ∀ a ∈ e.args.take i, allE nodeV a = true }) (fun i => [(1, .rop 7 (Ex e)), (3, I i.1)]) (fun _ => []) (fun i => e.args.length - i.1) ⟨0, by simp⟩ (by simp [E2]) rfl ?_
  rintro ⟨i, hi, hn⟩
  rcases Nat.lt_or_ge i e.args.length with hlt | hge
  · (repeat' (first | (with_reducible refine callS.eq (ih _ (List.getElem_mem hlt) (hoa _ (List.getElem_mem hlt)) (ha _ (List.getElem_mem hlt))) ?_) | simp (maxSteps := 2000000) only [↓ S2, S2, vIte, ↓reduceIte, Int.reduceNe, Nat.reduceEqDiff, reduceCtorEq, Nat.reduceLeDiff, Nat.reduceAdd, Nat.reduceLT, XE] | simp only [brGen] | simp +contextual (disch := omega) only [Z2] | (with_reducible intro h) | (with_reducible refine And.intro (by omega) ?_) | (with_reducible refine exP (by omega) ?_) | (with_reducible apply And.intro)))
    all_goals try (exfalso; omega)
    · exact nx ⟨i + 1, by omega, all_take hlt (by assumption) hn⟩ (by simp; omega) (by simp [E2]) rfl
    · rw [allE_no hlt (by assumption)]
  · have : i = e.args.length := by omega
    subst this
    rw [List.take_of_length_le (Nat.le_refl _)] at hn
    rw [allE_yes hn]
    (repeat' (first | (with_reducible refine callS.eq (w54 e hl ho) ?_) | simp (maxSteps := 2000000) only [↓ S2, S2, vIte, ↓reduceIte, Int.reduceNe, Nat.reduceEqDiff, reduceCtorEq, Nat.reduceLeDiff, Nat.reduceAdd, Nat.reduceLT, XE] | simp only [brGen] | simp +contextual (disch := omega) only [Z2] | (with_reducible intro h) | (with_reducible refine And.intro (by omega) ?_) | (with_reducible refine exP (by omega) ?_) | (with_reducible apply And.intro)))
theorem w36 (e : Exp) (ho : okE e) (hw : wEx e ≤ 1048576) : Pure Try.prog 36 [Ex e] (· = B (validE e)) := by
  have hc := cntE_le e
  have hd := dpE_le e
  refine gstart mxd i36 rfl (by simp) ?_; simp (maxSteps := 2000000) only [↓ S2, S2, vIte, ↓reduceIte, Int.reduceNe, Nat.reduceEqDiff, reduceCtorEq, Nat.reduceLeDiff, Nat.reduceAdd, Nat.reduceLT]
  (repeat' (first | (with_reducible refine callS.eq (w48 e hw _ (by omega) (by omega)) ?_) | (with_reducible refine callS.eq (w49 e hw) ?_) | (with_reducible refine callS.eq (w50 e ho hw) ?_) | simp (maxSteps := 2000000) only [↓ S2, S2, vIte, ↓reduceIte, Int.reduceNe, Nat.reduceEqDiff, reduceCtorEq, Nat.reduceLeDiff, Nat.reduceAdd, Nat.reduceLT, XE] | simp only [brGen] | simp +contextual (disch := omega) only [Z2] | (with_reducible intro h) | (with_reducible refine And.intro (by omega) ?_) | (with_reducible refine exP (by omega) ?_) | (with_reducible apply And.intro)))
  all_goals (simp only [validE])
  all_goals first
    | (rw [decide_eq_true (show cntE e ≤ 24 by omega), decide_eq_true (show dpE e ≤ 6 by omega)]; rfl)
    | (rw [decide_eq_false (show ¬ cntE e ≤ 24 by omega)]; rfl)
    | (rw [decide_eq_false (show ¬ dpE e ≤ 6 by omega), Bool.and_false]; rfl)
end Go.Proofs.Ytkmedfejmndmjaa

