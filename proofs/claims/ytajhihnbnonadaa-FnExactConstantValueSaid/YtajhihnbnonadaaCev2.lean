/- The laws FnExactConstantValue and FnExactEvalLocal return true whatever the input, and the input reads behind the call as before. No condition. -/
import Derived.Test.YtajhihnbnonadaaCev1
namespace Go.Proofs.Ytajhihnbnonadaa
open Go.Gh
set_option maxRecDepth 20000
set_option linter.unusedSimpArgs false
set_option linter.unusedVariables false
theorem w144 (op a b : Int) : Pure Try.prog 144 [I op, I a, I b] (· = I (apV op a b)) := by
  refine gstart mxd i144 rfl (by simp) ?_; simp (maxSteps := 2000000) only [↓ S2, S2, vIte, ↓reduceIte, Int.reduceNe, Nat.reduceEqDiff, reduceCtorEq, Nat.reduceLeDiff, Nat.reduceAdd, Nat.reduceLT]
  refine callS.eq (w110 _) ?_
  ((try simp (maxSteps := 2000000) only [↓ S2, S2, vIte, ↓reduceIte, Int.reduceNe, Nat.reduceEqDiff, reduceCtorEq, Nat.reduceLeDiff, Nat.reduceAdd, Nat.reduceLT]); (repeat (simp only [brGen]; try simp (maxSteps := 2000000) only [↓ S2, S2, vIte, ↓reduceIte, Int.reduceNe, Nat.reduceEqDiff, reduceCtorEq, Nat.reduceLeDiff, Nat.reduceAdd, Nat.reduceLT])); (try simp +contextual (disch := omega) only [Z2]); (repeat' (first | (with_reducible intro h) | (with_reducible refine And.intro (by omega) ?_) | (with_reducible refine exP (by omega) ?_) | (with_reducible apply And.intro))))
  refine callS.eq (w174 _ _) ?_
  ((try simp (maxSteps := 2000000) only [↓ S2, S2, vIte, ↓reduceIte, Int.reduceNe, Nat.reduceEqDiff, reduceCtorEq, Nat.reduceLeDiff, Nat.reduceAdd, Nat.reduceLT]); (repeat (simp only [brGen]; try simp (maxSteps := 2000000) only [↓ S2, S2, vIte, ↓reduceIte, Int.reduceNe, Nat.reduceEqDiff, reduceCtorEq, Nat.reduceLeDiff, Nat.reduceAdd, Nat.reduceLT])); (try simp +contextual (disch := omega) only [Z2]); (repeat' (first | (with_reducible intro h) | (with_reducible refine And.intro (by omega) ?_) | (with_reducible refine exP (by omega) ?_) | (with_reducible apply And.intro))))
  refine callS.eq (w174 _ _) ?_
  simp only [apV]
  generalize coV a (opT op).1 = a
  generalize coV b (opT op).2.1 = b
  ((try simp (maxSteps := 2000000) only [↓ S2, S2, vIte, ↓reduceIte, Int.reduceNe, Nat.reduceEqDiff, reduceCtorEq, Nat.reduceLeDiff, Nat.reduceAdd, Nat.reduceLT]); (repeat (simp only [brGen]; try simp (maxSteps := 2000000) only [↓ S2, S2, vIte, ↓reduceIte, Int.reduceNe, Nat.reduceEqDiff, reduceCtorEq, Nat.reduceLeDiff, Nat.reduceAdd, Nat.reduceLT])); (try simp +contextual (disch := omega) only [Z2]); (repeat' (first | (with_reducible intro h) | (with_reducible refine And.intro (by omega) ?_) | (with_reducible refine exP (by omega) ?_) | (with_reducible apply And.intro))))
  all_goals first
    | (simp_all [apW]; done)
    | (subst op; congr 2; show _ = max a b; omega)
    | (subst op; congr 2; show _ = min a b; omega)
    | (refine callS.eq (w175 _) ?_; ((try simp (maxSteps := 2000000) only [↓ S2, S2, vIte, ↓reduceIte, Int.reduceNe, Nat.reduceEqDiff, reduceCtorEq, Nat.reduceLeDiff, Nat.reduceAdd, Nat.reduceLT]); (repeat (simp only [brGen]; try simp (maxSteps := 2000000) only [↓ S2, S2, vIte, ↓reduceIte, Int.reduceNe, Nat.reduceEqDiff, reduceCtorEq, Nat.reduceLeDiff, Nat.reduceAdd, Nat.reduceLT])); (try simp +contextual (disch := omega) only [Z2]); (repeat' (first | (with_reducible intro h) | (with_reducible refine And.intro (by omega) ?_) | (with_reducible refine exP (by omega) ?_) | (with_reducible apply And.intro)))); simp_all [apW]; done)
    | (refine callS.eq (w176 _) ?_; ((try simp (maxSteps := 2000000) only [↓ S2, S2, vIte, ↓reduceIte, Int.reduceNe, Nat.reduceEqDiff, reduceCtorEq, Nat.reduceLeDiff, Nat.reduceAdd, Nat.reduceLT]); (repeat (simp only [brGen]; try simp (maxSteps := 2000000) only [↓ S2, S2, vIte, ↓reduceIte, Int.reduceNe, Nat.reduceEqDiff, reduceCtorEq, Nat.reduceLeDiff, Nat.reduceAdd, Nat.reduceLT])); (try simp +contextual (disch := omega) only [Z2]); (repeat' (first | (with_reducible intro h) | (with_reducible refine And.intro (by omega) ?_) | (with_reducible refine exP (by omega) ?_) | (with_reducible apply And.intro)))); simp_all [apW]; done)
    | skip
  all_goals refine callS.eq (w72 _ _ _) ?_
  all_goals ((try simp (maxSteps := 2000000) only [↓ S2, S2, vIte, ↓reduceIte, Int.reduceNe, Nat.reduceEqDiff, reduceCtorEq, Nat.reduceLeDiff, Nat.reduceAdd, Nat.reduceLT]); (repeat (simp only [brGen]; try simp (maxSteps := 2000000) only [↓ S2, S2, vIte, ↓reduceIte, Int.reduceNe, Nat.reduceEqDiff, reduceCtorEq, Nat.reduceLeDiff, Nat.reduceAdd, Nat.reduceLT])); (try simp +contextual (disch := omega) only [Z2]); (repeat' (first | (with_reducible intro h) | (with_reducible refine And.intro (by omega) ?_) | (with_reducible refine exP (by omega) ?_) | (with_reducible apply And.intro))))
  all_goals (try rw [wrapU b (by omega) (by omega)])
  all_goals first
    | (exact h.1)
    | omega
    | (refine callS.eq (w176 _) ?_; ((try simp (maxSteps := 2000000) only [↓ S2, S2, vIte, ↓reduceIte, Int.reduceNe, Nat.reduceEqDiff, reduceCtorEq, Nat.reduceLeDiff, Nat.reduceAdd, Nat.reduceLT]); (repeat (simp only [brGen]; try simp (maxSteps := 2000000) only [↓ S2, S2, vIte, ↓reduceIte, Int.reduceNe, Nat.reduceEqDiff, reduceCtorEq, Nat.reduceLeDiff, Nat.reduceAdd, Nat.reduceLT])); (try simp +contextual (disch := omega) only [Z2]); (repeat' (first | (with_reducible intro h) | (with_reducible refine And.intro (by omega) ?_) | (with_reducible refine exP (by omega) ?_) | (with_reducible apply And.intro)))); simp_all [apW, trV]; done)
    | (((try simp (maxSteps := 2000000) only [↓ S2, S2, vIte, ↓reduceIte, Int.reduceNe, Nat.reduceEqDiff, reduceCtorEq, Nat.reduceLeDiff, Nat.reduceAdd, Nat.reduceLT]); (repeat (simp only [brGen]; try simp (maxSteps := 2000000) only [↓ S2, S2, vIte, ↓reduceIte, Int.reduceNe, Nat.reduceEqDiff, reduceCtorEq, Nat.reduceLeDiff, Nat.reduceAdd, Nat.reduceLT])); (try simp +contextual (disch := omega) only [Z2]); (repeat' (first | (with_reducible intro h) | (with_reducible refine And.intro (by omega) ?_) | (with_reducible refine exP (by omega) ?_) | (with_reducible apply And.intro)))); simp_all [apW, trV]; done)
    | (simp_all [apW, trV]; done)
    | skip
  · (refine callS.eq (w176 _) ?_; ((try simp (maxSteps := 2000000) only [↓ S2, S2, vIte, ↓reduceIte, Int.reduceNe, Nat.reduceEqDiff, reduceCtorEq, Nat.reduceLeDiff, Nat.reduceAdd, Nat.reduceLT]); (repeat (simp only [brGen]; try simp (maxSteps := 2000000) only [↓ S2, S2, vIte, ↓reduceIte, Int.reduceNe, Nat.reduceEqDiff, reduceCtorEq, Nat.reduceLeDiff, Nat.reduceAdd, Nat.reduceLT])); (try simp +contextual (disch := omega) only [Z2]); (repeat' (first | (with_reducible intro h) | (with_reducible refine And.intro (by omega) ?_) | (with_reducible refine exP (by omega) ?_) | (with_reducible apply And.intro)))); rw [apW11 h]; rfl)
  · (rw [apW12 h])
theorem w137 (op a b : Int) : Pure Try.prog 137 [I op, I a, I b] (· = I (apV op a b)) := by
  refine gstart mxd i137 rfl (by simp) ?_; simp (maxSteps := 2000000) only [↓ S2, S2, vIte, ↓reduceIte, Int.reduceNe, Nat.reduceEqDiff, reduceCtorEq, Nat.reduceLeDiff, Nat.reduceAdd, Nat.reduceLT]
  refine callS.eq (w152 _) ?_
  ((try simp (maxSteps := 2000000) only [↓ S2, S2, vIte, ↓reduceIte, Int.reduceNe, Nat.reduceEqDiff, reduceCtorEq, Nat.reduceLeDiff, Nat.reduceAdd, Nat.reduceLT]); (repeat (simp only [brGen]; try simp (maxSteps := 2000000) only [↓ S2, S2, vIte, ↓reduceIte, Int.reduceNe, Nat.reduceEqDiff, reduceCtorEq, Nat.reduceLeDiff, Nat.reduceAdd, Nat.reduceLT])); (try simp +contextual (disch := omega) only [Z2]); (repeat' (first | (with_reducible intro h) | (with_reducible refine And.intro (by omega) ?_) | (with_reducible refine exP (by omega) ?_) | (with_reducible apply And.intro))))
  refine callS.eq (w166 _ _) ?_
  ((try simp (maxSteps := 2000000) only [↓ S2, S2, vIte, ↓reduceIte, Int.reduceNe, Nat.reduceEqDiff, reduceCtorEq, Nat.reduceLeDiff, Nat.reduceAdd, Nat.reduceLT]); (repeat (simp only [brGen]; try simp (maxSteps := 2000000) only [↓ S2, S2, vIte, ↓reduceIte, Int.reduceNe, Nat.reduceEqDiff, reduceCtorEq, Nat.reduceLeDiff, Nat.reduceAdd, Nat.reduceLT])); (try simp +contextual (disch := omega) only [Z2]); (repeat' (first | (with_reducible intro h) | (with_reducible refine And.intro (by omega) ?_) | (with_reducible refine exP (by omega) ?_) | (with_reducible apply And.intro))))
  refine callS.eq (w166 _ _) ?_
  simp only [apV]
  generalize coV a (opT op).1 = a
  generalize coV b (opT op).2.1 = b
  ((try simp (maxSteps := 2000000) only [↓ S2, S2, vIte, ↓reduceIte, Int.reduceNe, Nat.reduceEqDiff, reduceCtorEq, Nat.reduceLeDiff, Nat.reduceAdd, Nat.reduceLT]); (repeat (simp only [brGen]; try simp (maxSteps := 2000000) only [↓ S2, S2, vIte, ↓reduceIte, Int.reduceNe, Nat.reduceEqDiff, reduceCtorEq, Nat.reduceLeDiff, Nat.reduceAdd, Nat.reduceLT])); (try simp +contextual (disch := omega) only [Z2]); (repeat' (first | (with_reducible intro h) | (with_reducible refine And.intro (by omega) ?_) | (with_reducible refine exP (by omega) ?_) | (with_reducible apply And.intro))))
  all_goals first
    | (simp_all [apW]; done)
    | (subst op; congr 2; show _ = max a b; omega)
    | (subst op; congr 2; show _ = min a b; omega)
    | (refine callS.eq (w167 _) ?_; ((try simp (maxSteps := 2000000) only [↓ S2, S2, vIte, ↓reduceIte, Int.reduceNe, Nat.reduceEqDiff, reduceCtorEq, Nat.reduceLeDiff, Nat.reduceAdd, Nat.reduceLT]); (repeat (simp only [brGen]; try simp (maxSteps := 2000000) only [↓ S2, S2, vIte, ↓reduceIte, Int.reduceNe, Nat.reduceEqDiff, reduceCtorEq, Nat.reduceLeDiff, Nat.reduceAdd, Nat.reduceLT])); (try simp +contextual (disch := omega) only [Z2]); (repeat' (first | (with_reducible intro h) | (with_reducible refine And.intro (by omega) ?_) | (with_reducible refine exP (by omega) ?_) | (with_reducible apply And.intro)))); simp_all [apW]; done)
    | (refine callS.eq (w169 _) ?_; ((try simp (maxSteps := 2000000) only [↓ S2, S2, vIte, ↓reduceIte, Int.reduceNe, Nat.reduceEqDiff, reduceCtorEq, Nat.reduceLeDiff, Nat.reduceAdd, Nat.reduceLT]); (repeat (simp only [brGen]; try simp (maxSteps := 2000000) only [↓ S2, S2, vIte, ↓reduceIte, Int.reduceNe, Nat.reduceEqDiff, reduceCtorEq, Nat.reduceLeDiff, Nat.reduceAdd, Nat.reduceLT])); (try simp +contextual (disch := omega) only [Z2]); (repeat' (first | (with_reducible intro h) | (with_reducible refine And.intro (by omega) ?_) | (with_reducible refine exP (by omega) ?_) | (with_reducible apply And.intro)))); simp_all [apW]; done)
    | (refine callS.eq (w164 _ _) ?_; ((try simp (maxSteps := 2000000) only [↓ S2, S2, vIte, ↓reduceIte, Int.reduceNe, Nat.reduceEqDiff, reduceCtorEq, Nat.reduceLeDiff, Nat.reduceAdd, Nat.reduceLT]); (repeat (simp only [brGen]; try simp (maxSteps := 2000000) only [↓ S2, S2, vIte, ↓reduceIte, Int.reduceNe, Nat.reduceEqDiff, reduceCtorEq, Nat.reduceLeDiff, Nat.reduceAdd, Nat.reduceLT])); (try simp +contextual (disch := omega) only [Z2]); (repeat' (first | (with_reducible intro h) | (with_reducible refine And.intro (by omega) ?_) | (with_reducible refine exP (by omega) ?_) | (with_reducible apply And.intro)))); simp_all [apW]; done)
    | (refine callS.eq (w168 _ _) ?_; ((try simp (maxSteps := 2000000) only [↓ S2, S2, vIte, ↓reduceIte, Int.reduceNe, Nat.reduceEqDiff, reduceCtorEq, Nat.reduceLeDiff, Nat.reduceAdd, Nat.reduceLT]); (repeat (simp only [brGen]; try simp (maxSteps := 2000000) only [↓ S2, S2, vIte, ↓reduceIte, Int.reduceNe, Nat.reduceEqDiff, reduceCtorEq, Nat.reduceLeDiff, Nat.reduceAdd, Nat.reduceLT])); (try simp +contextual (disch := omega) only [Z2]); (repeat' (first | (with_reducible intro h) | (with_reducible refine And.intro (by omega) ?_) | (with_reducible refine exP (by omega) ?_) | (with_reducible apply And.intro)))); simp_all [apW]; done)
    | skip
  all_goals refine callS.eq (w92 _ _ _) ?_
  all_goals ((try simp (maxSteps := 2000000) only [↓ S2, S2, vIte, ↓reduceIte, Int.reduceNe, Nat.reduceEqDiff, reduceCtorEq, Nat.reduceLeDiff, Nat.reduceAdd, Nat.reduceLT]); (repeat (simp only [brGen]; try simp (maxSteps := 2000000) only [↓ S2, S2, vIte, ↓reduceIte, Int.reduceNe, Nat.reduceEqDiff, reduceCtorEq, Nat.reduceLeDiff, Nat.reduceAdd, Nat.reduceLT])); (try simp +contextual (disch := omega) only [Z2]); (repeat' (first | (with_reducible intro h) | (with_reducible refine And.intro (by omega) ?_) | (with_reducible refine exP (by omega) ?_) | (with_reducible apply And.intro))))
  all_goals try (refine callS.eq (w164 _ _) ?_; rw [show max b 0 = b by omega]; ((try simp (maxSteps := 2000000) only [↓ S2, S2, vIte, ↓reduceIte, Int.reduceNe, Nat.reduceEqDiff, reduceCtorEq, Nat.reduceLeDiff, Nat.reduceAdd, Nat.reduceLT]); (repeat (simp only [brGen]; try simp (maxSteps := 2000000) only [↓ S2, S2, vIte, ↓reduceIte, Int.reduceNe, Nat.reduceEqDiff, reduceCtorEq, Nat.reduceLeDiff, Nat.reduceAdd, Nat.reduceLT])); (try simp +contextual (disch := omega) only [Z2]); (repeat' (first | (with_reducible intro h) | (with_reducible refine And.intro (by omega) ?_) | (with_reducible refine exP (by omega) ?_) | (with_reducible apply And.intro)))))
  all_goals (try rw [wrapU b (by omega) (by omega)])
  all_goals first
    | (exact h.1)
    | omega
    | (refine callS.eq (w169 _) ?_; ((try simp (maxSteps := 2000000) only [↓ S2, S2, vIte, ↓reduceIte, Int.reduceNe, Nat.reduceEqDiff, reduceCtorEq, Nat.reduceLeDiff, Nat.reduceAdd, Nat.reduceLT]); (repeat (simp only [brGen]; try simp (maxSteps := 2000000) only [↓ S2, S2, vIte, ↓reduceIte, Int.reduceNe, Nat.reduceEqDiff, reduceCtorEq, Nat.reduceLeDiff, Nat.reduceAdd, Nat.reduceLT])); (try simp +contextual (disch := omega) only [Z2]); (repeat' (first | (with_reducible intro h) | (with_reducible refine And.intro (by omega) ?_) | (with_reducible refine exP (by omega) ?_) | (with_reducible apply And.intro)))); simp_all [apW, trV]; done)
    | (((try simp (maxSteps := 2000000) only [↓ S2, S2, vIte, ↓reduceIte, Int.reduceNe, Nat.reduceEqDiff, reduceCtorEq, Nat.reduceLeDiff, Nat.reduceAdd, Nat.reduceLT]); (repeat (simp only [brGen]; try simp (maxSteps := 2000000) only [↓ S2, S2, vIte, ↓reduceIte, Int.reduceNe, Nat.reduceEqDiff, reduceCtorEq, Nat.reduceLeDiff, Nat.reduceAdd, Nat.reduceLT])); (try simp +contextual (disch := omega) only [Z2]); (repeat' (first | (with_reducible intro h) | (with_reducible refine And.intro (by omega) ?_) | (with_reducible refine exP (by omega) ?_) | (with_reducible apply And.intro)))); simp_all [apW, trV]; done)
    | (simp_all [apW, trV]; done)
    | skip
  · (refine callS.eq (w169 _) ?_; ((try simp (maxSteps := 2000000) only [↓ S2, S2, vIte, ↓reduceIte, Int.reduceNe, Nat.reduceEqDiff, reduceCtorEq, Nat.reduceLeDiff, Nat.reduceAdd, Nat.reduceLT]); (repeat (simp only [brGen]; try simp (maxSteps := 2000000) only [↓ S2, S2, vIte, ↓reduceIte, Int.reduceNe, Nat.reduceEqDiff, reduceCtorEq, Nat.reduceLeDiff, Nat.reduceAdd, Nat.reduceLT])); (try simp +contextual (disch := omega) only [Z2]); (repeat' (first | (with_reducible intro h) | (with_reducible refine And.intro (by omega) ?_) | (with_reducible refine exP (by omega) ?_) | (with_reducible apply And.intro)))); rw [apW11 h]; rfl)
  · (rw [apW12 h])
end Go.Proofs.Ytajhihnbnonadaa

namespace Go.Proofs.Ytajhihnbnonadaa
open Go.Gh
set_option maxRecDepth 20000
set_option linter.unusedSimpArgs false
set_option linter.unusedVariables false
theorem w138 : ∀ (e : Exp), wEx e ≤ 1048576 → Pure Try.prog 138 [Ex e] (· = I (cntE e)) := by
  refine Exp.indA fun e ih hw => ?_
  obtain ⟨hl, ha⟩ := args_small hw
  have hc := cntE_le e
  have he := cntE_eq e
  rw [Ex_eq]
  refine gstart mxd i138 rfl (by simp) ?_; simp (maxSteps := 2000000) only [↓ S2, S2, vIte, ↓reduceIte, Int.reduceNe, Nat.reduceEqDiff, reduceCtorEq, Nat.reduceLeDiff, Nat.reduceAdd, Nat.reduceLT]
  refine wloop mxd (ι := { i : Nat // i ≤ e.args.length }) (fun i => [(3, I ((1 + ((e.args.take i.1).map cntE).sum : Nat) : Int)), (7, ExS e.args), (8, I e.args.length), (9, I i.1)]) (fun i => []) (fun i => e.args.length - i.1) ⟨0, by simp⟩ (by simp [E2, mxL]) (by simp) ?_
  rintro ⟨i, hi⟩
  have h1 := sumT_le cntE e.args i
  have h3 := sumT_le cntE e.args (i + 1)
  ((try simp (maxSteps := 2000000) only [↓ S2, S2, vIte, ↓reduceIte, Int.reduceNe, Nat.reduceEqDiff, reduceCtorEq, Nat.reduceLeDiff, Nat.reduceAdd, Nat.reduceLT, isAgg_Ex, geR_Ex, gsize_Ex, stor_Ex]); (repeat (simp only [brGen]; try simp (maxSteps := 2000000) only [↓ S2, S2, vIte, ↓reduceIte, Int.reduceNe, Nat.reduceEqDiff, reduceCtorEq, Nat.reduceLeDiff, Nat.reduceAdd, Nat.reduceLT, isAgg_Ex, geR_Ex, gsize_Ex, stor_Ex])); (try simp +contextual (disch := omega) only [Z2]); (repeat' (first | (with_reducible intro h) | (with_reducible refine And.intro (by omega) ?_) | (with_reducible refine exP (by omega) ?_) | (with_reducible apply And.intro))))
  · have h2 := sumT cntE e.args i (by omega)
    refine callS.eq (ih _ (List.getElem_mem _) (ha _ (List.getElem_mem _))) ?_
    ((try simp (maxSteps := 2000000) only [↓ S2, S2, vIte, ↓reduceIte, Int.reduceNe, Nat.reduceEqDiff, reduceCtorEq, Nat.reduceLeDiff, Nat.reduceAdd, Nat.reduceLT]); (repeat (simp only [brGen]; try simp (maxSteps := 2000000) only [↓ S2, S2, vIte, ↓reduceIte, Int.reduceNe, Nat.reduceEqDiff, reduceCtorEq, Nat.reduceLeDiff, Nat.reduceAdd, Nat.reduceLT])); (try simp +contextual (disch := omega) only [Z2]); (repeat' (first | (with_reducible intro h) | (with_reducible refine And.intro (by omega) ?_) | (with_reducible refine exP (by omega) ?_) | (with_reducible apply And.intro))))
    refine nx ⟨i + 1, by omega⟩ (by simp; omega) ?_ (by simp)
    simp [E2, h2, -List.map_take]
    try (first | omega | (split <;> omega))
  · have : i = e.args.length := by omega
    subst this
    simp [he]
theorem w139 : ∀ (e : Exp), wEx e ≤ 1048576 → Pure Try.prog 139 [Ex e] (· = I (dpE e)) := by
  refine Exp.indA fun e ih hw => ?_
  obtain ⟨hl, ha⟩ := args_small hw
  have hc := cntE_le e
  have he := cntE_eq e
  have hd := dpE_eq e
  have hq := sumL_le (l := e.args) fun a _ => dpE_le a
  rw [Ex_eq]
  refine gstart mxd i139 rfl (by simp) ?_; simp (maxSteps := 2000000) only [↓ S2, S2, vIte, ↓reduceIte, Int.reduceNe, Nat.reduceEqDiff, reduceCtorEq, Nat.reduceLeDiff, Nat.reduceAdd, Nat.reduceLT]
  refine wloop mxd (ι := { i : Nat // i ≤ e.args.length }) (fun i => [(3, I (mxL ((e.args.take i.1).map dpE))), (7, ExS e.args), (8, I e.args.length), (9, I i.1)]) (fun i => []) (fun i => e.args.length - i.1) ⟨0, by simp⟩ (by simp [E2, mxL]) (by simp) ?_
  rintro ⟨i, hi⟩
  have h1 := mxT_le dpE e.args i
  ((try simp (maxSteps := 2000000) only [↓ S2, S2, vIte, ↓reduceIte, Int.reduceNe, Nat.reduceEqDiff, reduceCtorEq, Nat.reduceLeDiff, Nat.reduceAdd, Nat.reduceLT, isAgg_Ex, geR_Ex, gsize_Ex, stor_Ex]); (repeat (simp only [brGen]; try simp (maxSteps := 2000000) only [↓ S2, S2, vIte, ↓reduceIte, Int.reduceNe, Nat.reduceEqDiff, reduceCtorEq, Nat.reduceLeDiff, Nat.reduceAdd, Nat.reduceLT, isAgg_Ex, geR_Ex, gsize_Ex, stor_Ex])); (try simp +contextual (disch := omega) only [Z2]); (repeat' (first | (with_reducible intro h) | (with_reducible refine And.intro (by omega) ?_) | (with_reducible refine exP (by omega) ?_) | (with_reducible apply And.intro))))
  · have h2 := mxT dpE e.args i (by omega)
    refine callS.eq (ih _ (List.getElem_mem _) (ha _ (List.getElem_mem _))) ?_
    ((try simp (maxSteps := 2000000) only [↓ S2, S2, vIte, ↓reduceIte, Int.reduceNe, Nat.reduceEqDiff, reduceCtorEq, Nat.reduceLeDiff, Nat.reduceAdd, Nat.reduceLT]); (repeat (simp only [brGen]; try simp (maxSteps := 2000000) only [↓ S2, S2, vIte, ↓reduceIte, Int.reduceNe, Nat.reduceEqDiff, reduceCtorEq, Nat.reduceLeDiff, Nat.reduceAdd, Nat.reduceLT])); (try simp +contextual (disch := omega) only [Z2]); (repeat' (first | (with_reducible intro h) | (with_reducible refine And.intro (by omega) ?_) | (with_reducible refine exP (by omega) ?_) | (with_reducible apply And.intro))))
    refine nx ⟨i + 1, by omega⟩ (by simp; omega) ?_ (by simp)
    simp [E2, h2, -List.map_take]
    try (first | omega | (split <;> omega))
  · have : i = e.args.length := by omega
    subst this
    simp [hd]
    try omega
theorem w134 : ∀ (e : Exp), wEx e ≤ 1048576 → Pure Try.prog 134 [Ex e] (· = I (dpE e)) := by
  refine Exp.indA fun e ih hw => ?_
  obtain ⟨hl, ha⟩ := args_small hw
  have hc := cntE_le e
  have he := cntE_eq e
  have hd := dpE_eq e
  have hq := sumL_le (l := e.args) fun a _ => dpE_le a
  rw [Ex_eq]
  refine gstart mxd i134 rfl (by simp) ?_; simp (maxSteps := 2000000) only [↓ S2, S2, vIte, ↓reduceIte, Int.reduceNe, Nat.reduceEqDiff, reduceCtorEq, Nat.reduceLeDiff, Nat.reduceAdd, Nat.reduceLT]
  refine wloop mxd (ι := { i : Nat // i ≤ e.args.length }) (fun i => [(1, .rop 7 (.agg [I e.kind, I e.n, I e.pos, I e.type, T e.sym, T e.name, ExS e.args])), (3, I (mxL ((e.args.take i.1).map dpE))), (4, I i.1)]) (fun i => []) (fun i => e.args.length - i.1) ⟨0, by simp⟩ (by simp [E2, mxL]) (by simp) ?_
  rintro ⟨i, hi⟩
  have h1 := mxT_le dpE e.args i
  ((try simp (maxSteps := 2000000) only [↓ S2, S2, vIte, ↓reduceIte, Int.reduceNe, Nat.reduceEqDiff, reduceCtorEq, Nat.reduceLeDiff, Nat.reduceAdd, Nat.reduceLT, isAgg_Ex, geR_Ex, gsize_Ex, stor_Ex]); (repeat (simp only [brGen]; try simp (maxSteps := 2000000) only [↓ S2, S2, vIte, ↓reduceIte, Int.reduceNe, Nat.reduceEqDiff, reduceCtorEq, Nat.reduceLeDiff, Nat.reduceAdd, Nat.reduceLT, isAgg_Ex, geR_Ex, gsize_Ex, stor_Ex])); (try simp +contextual (disch := omega) only [Z2]); (repeat' (first | (with_reducible intro h) | (with_reducible refine And.intro (by omega) ?_) | (with_reducible refine exP (by omega) ?_) | (with_reducible apply And.intro))))
  · have h2 := mxT dpE e.args i (by omega)
    refine callS.eq (ih _ (List.getElem_mem _) (ha _ (List.getElem_mem _))) ?_
    ((try simp (maxSteps := 2000000) only [↓ S2, S2, vIte, ↓reduceIte, Int.reduceNe, Nat.reduceEqDiff, reduceCtorEq, Nat.reduceLeDiff, Nat.reduceAdd, Nat.reduceLT]); (repeat (simp only [brGen]; try simp (maxSteps := 2000000) only [↓ S2, S2, vIte, ↓reduceIte, Int.reduceNe, Nat.reduceEqDiff, reduceCtorEq, Nat.reduceLeDiff, Nat.reduceAdd, Nat.reduceLT])); (try simp +contextual (disch := omega) only [Z2]); (repeat' (first | (with_reducible intro h) | (with_reducible refine And.intro (by omega) ?_) | (with_reducible refine exP (by omega) ?_) | (with_reducible apply And.intro))))
    refine callS.eq (w164 _ _) ?_
    ((try simp (maxSteps := 2000000) only [↓ S2, S2, vIte, ↓reduceIte, Int.reduceNe, Nat.reduceEqDiff, reduceCtorEq, Nat.reduceLeDiff, Nat.reduceAdd, Nat.reduceLT]); (repeat (simp only [brGen]; try simp (maxSteps := 2000000) only [↓ S2, S2, vIte, ↓reduceIte, Int.reduceNe, Nat.reduceEqDiff, reduceCtorEq, Nat.reduceLeDiff, Nat.reduceAdd, Nat.reduceLT])); (try simp +contextual (disch := omega) only [Z2]); (repeat' (first | (with_reducible intro h) | (with_reducible refine And.intro (by omega) ?_) | (with_reducible refine exP (by omega) ?_) | (with_reducible apply And.intro))))
    refine nx ⟨i + 1, by omega⟩ (by simp; omega) ?_ (by simp)
    simp [E2, h2, -List.map_take]
    try (first | omega | (split <;> omega))
  · have : i = e.args.length := by omega
    subst this
    simp [hd]
    try omega
theorem w133 : ∀ (e : Exp), wEx e ≤ 1048576 → ∀ left : Int, 0 ≤ left → left ≤ 1048576 → Pure Try.prog 133 [Ex e, I left] (· = I (max (left - cntE e) (-1))) := by
  refine Exp.indA fun e ih hw left l0 l1 => ?_
  obtain ⟨hl, ha⟩ := args_small hw
  have hc := cntE_le e
  have he := cntE_eq e
  rw [Ex_eq]
  refine gstart mxd i133 rfl (by simp) ?_; simp (maxSteps := 2000000) only [↓ S2, S2, vIte, ↓reduceIte, Int.reduceNe, Nat.reduceEqDiff, reduceCtorEq, Nat.reduceLeDiff, Nat.reduceAdd, Nat.reduceLT]
  simp +contextual (disch := omega) only [Z2]
  refine wloop mxd (ι := { i : Nat // i ≤ e.args.length }) (fun i => [(2, .rop 7 (.agg [I e.kind, I e.n, I e.pos, I e.type, T e.sym, T e.name, ExS e.args])), (1, I (max (left - 1 - ((e.args.take i.1).map cntE).sum) (-1))), (5, I i.1)]) (fun i => []) (fun i => e.args.length - i.1) ⟨0, by simp⟩ (by simp [E2]; try omega) (by simp) ?_
  rintro ⟨i, hi⟩
  have h1 := sumT_le cntE e.args i
  generalize hs : ((e.args.take i).map cntE).sum = s at *
  ((try simp (maxSteps := 2000000) only [↓ S2, S2, vIte, ↓reduceIte, Int.reduceNe, Nat.reduceEqDiff, reduceCtorEq, Nat.reduceLeDiff, Nat.reduceAdd, Nat.reduceLT, isAgg_Ex, geR_Ex, gsize_Ex, stor_Ex]); (repeat (simp only [brGen]; try simp (maxSteps := 2000000) only [↓ S2, S2, vIte, ↓reduceIte, Int.reduceNe, Nat.reduceEqDiff, reduceCtorEq, Nat.reduceLeDiff, Nat.reduceAdd, Nat.reduceLT, isAgg_Ex, geR_Ex, gsize_Ex, stor_Ex])); (try simp +contextual (disch := omega) only [Z2]); (repeat' (first | (with_reducible intro h) | (with_reducible refine And.intro (by omega) ?_) | (with_reducible refine exP (by omega) ?_) | (with_reducible apply And.intro))))
  · have h2 := sumT cntE e.args i (by omega)
    refine callS.eq (ih _ (List.getElem_mem _) (ha _ (List.getElem_mem _)) _ (by omega) (by omega)) ?_
    ((try simp (maxSteps := 2000000) only [↓ S2, S2, vIte, ↓reduceIte, Int.reduceNe, Nat.reduceEqDiff, reduceCtorEq, Nat.reduceLeDiff, Nat.reduceAdd, Nat.reduceLT]); (repeat (simp only [brGen]; try simp (maxSteps := 2000000) only [↓ S2, S2, vIte, ↓reduceIte, Int.reduceNe, Nat.reduceEqDiff, reduceCtorEq, Nat.reduceLeDiff, Nat.reduceAdd, Nat.reduceLT])); (try simp +contextual (disch := omega) only [Z2]); (repeat' (first | (with_reducible intro h) | (with_reducible refine And.intro (by omega) ?_) | (with_reducible refine exP (by omega) ?_) | (with_reducible apply And.intro))))
    refine nx ⟨i + 1, by omega⟩ (by simp; omega) ?_ (by simp)
    simp [E2, h2, hs, -List.map_take]
    try omega
  all_goals first | (congr 2; omega) | (rw [List.take_of_length_le (by omega)] at hs; congr 2; omega)
end Go.Proofs.Ytajhihnbnonadaa

namespace Go.Proofs.Ytajhihnbnonadaa
open Go.Gh
set_option maxRecDepth 20000
set_option linter.unusedSimpArgs false
set_option linter.unusedVariables false
theorem w173 (t : List Exp) (f : Nat) (cs : List GV) (p : Exp → Bool) (hp : ∀ x ∈ t, Pure Try.prog f (Ex x :: cs) (· = B (p x))) :
    Pure Try.prog 173 [ExS t, .clo f cs] (· = I (ixOf p t)) := by
  refine GCalls.lenA fun hl => ?_
  have hlen := hl.1.1
  simp only [List.length_map, maxL] at hlen
  refine gstart mxd i173 rfl (by simp) ?_; simp (maxSteps := 2000000) only [↓ S2, S2, vIte, ↓reduceIte, Int.reduceNe, Nat.reduceEqDiff, reduceCtorEq, Nat.reduceLeDiff, Nat.reduceAdd, Nat.reduceLT]
  refine wloop mxd (ι := { i : Nat // i ≤ t.length ∧ ∀ y ∈ t.take i, p y = false }) (fun i => [(0, ExS t), (1, .clo f cs), (7, I t.length), (8, I i.1)]) (fun _ => []) (fun i => t.length - i.1) ⟨0, by simp⟩ (by simp [E2]) rfl ?_
  rintro ⟨i, hi, hn⟩
  ((try simp (maxSteps := 2000000) only [↓ S2, S2, vIte, ↓reduceIte, Int.reduceNe, Nat.reduceEqDiff, reduceCtorEq, Nat.reduceLeDiff, Nat.reduceAdd, Nat.reduceLT, isAgg_Ex, geR_Ex, gsize_Ex, stor_Ex]); (repeat (simp only [brGen]; try simp (maxSteps := 2000000) only [↓ S2, S2, vIte, ↓reduceIte, Int.reduceNe, Nat.reduceEqDiff, reduceCtorEq, Nat.reduceLeDiff, Nat.reduceAdd, Nat.reduceLT, isAgg_Ex, geR_Ex, gsize_Ex, stor_Ex])); (try simp +contextual (disch := omega) only [Z2]); (repeat' (first | (with_reducible intro h) | (with_reducible refine And.intro (by omega) ?_) | (with_reducible refine exP (by omega) ?_) | (with_reducible apply And.intro))))
  · refine callS.eq (hp t[i] (List.getElem_mem _)) ?_
    ((try simp (maxSteps := 2000000) only [↓ S2, S2, vIte, ↓reduceIte, Int.reduceNe, Nat.reduceEqDiff, reduceCtorEq, Nat.reduceLeDiff, Nat.reduceAdd, Nat.reduceLT]); (repeat (simp only [brGen]; try simp (maxSteps := 2000000) only [↓ S2, S2, vIte, ↓reduceIte, Int.reduceNe, Nat.reduceEqDiff, reduceCtorEq, Nat.reduceLeDiff, Nat.reduceAdd, Nat.reduceLT])); (try simp +contextual (disch := omega) only [Z2]); (repeat' (first | (with_reducible intro h) | (with_reducible refine And.intro (by omega) ?_) | (with_reducible refine exP (by omega) ?_) | (with_reducible apply And.intro))))
    · rw [ixOf_hit (by assumption) h hn]
    · exact nx ⟨i + 1, by omega, take_step (by assumption) h hn⟩ (by simp; omega) (by simp [E2]) rfl
  · have : i = t.length := by omega
    subst this
    rw [List.take_of_length_le (Nat.le_refl _)] at hn
    rw [ixOf_none hn]
theorem w141 (t : List Exp) (f : Nat) (cs : List GV) (p : Exp → Bool) (hp : ∀ x ∈ t, Pure Try.prog f (Ex x :: cs) (· = B (p x))) :
    Pure Try.prog 141 [ExS t, .clo f cs] (· = B (t.any p)) := by
  refine gstart mxd i141 rfl (by simp) ?_; simp (maxSteps := 2000000) only [↓ S2, S2, vIte, ↓reduceIte, Int.reduceNe, Nat.reduceEqDiff, reduceCtorEq, Nat.reduceLeDiff, Nat.reduceAdd, Nat.reduceLT]
  refine callS.eq (w173 t f cs p hp) ?_
  ((try simp (maxSteps := 2000000) only [↓ S2, S2, vIte, ↓reduceIte, Int.reduceNe, Nat.reduceEqDiff, reduceCtorEq, Nat.reduceLeDiff, Nat.reduceAdd, Nat.reduceLT]); (repeat (simp only [brGen]; try simp (maxSteps := 2000000) only [↓ S2, S2, vIte, ↓reduceIte, Int.reduceNe, Nat.reduceEqDiff, reduceCtorEq, Nat.reduceLeDiff, Nat.reduceAdd, Nat.reduceLT])); (try simp +contextual (disch := omega) only [Z2]); (repeat' (first | (with_reducible intro h) | (with_reducible refine And.intro (by omega) ?_) | (with_reducible refine exP (by omega) ?_) | (with_reducible apply And.intro))))
  rw [← any_ix]
theorem w79 (f : Nat) (cs : List GV) (p : Exp → Bool) (ok : Exp → Prop) (hok : ∀ e, ok e → ∀ a ∈ e.args, ok a) (hp : ∀ x, ok x → Pure Try.prog f (Ex x :: cs) (· = B (p x))) :
    ∀ e, ok e → Pure Try.prog 79 [Ex e, .clo f cs] (· = B (allE p e)) := by
  refine Exp.indA fun e ih he => ?_
  have hq := hp e he
  rw [Ex_eq] at hq ⊢
  refine gstart mxd i79 rfl (by simp) ?_; simp (maxSteps := 2000000) only [↓ S2, S2, vIte, ↓reduceIte, Int.reduceNe, Nat.reduceEqDiff, reduceCtorEq, Nat.reduceLeDiff, Nat.reduceAdd, Nat.reduceLT]
  refine ⟨rfl, callS.eq hq ?_⟩
  ((try simp (maxSteps := 2000000) only [↓ S2, S2, vIte, ↓reduceIte, Int.reduceNe, Nat.reduceEqDiff, reduceCtorEq, Nat.reduceLeDiff, Nat.reduceAdd, Nat.reduceLT]); (repeat (simp only [brGen]; try simp (maxSteps := 2000000) only [↓ S2, S2, vIte, ↓reduceIte, Int.reduceNe, Nat.reduceEqDiff, reduceCtorEq, Nat.reduceLeDiff, Nat.reduceAdd, Nat.reduceLT])); (try simp +contextual (disch := omega) only [Z2]); (repeat' (first | (with_reducible intro h) | (with_reducible refine And.intro (by omega) ?_) | (with_reducible refine exP (by omega) ?_) | (with_reducible apply And.intro))))
  · refine callS.eq (w141 e.args _ _ (fun a => !allE p a) fun a ha => ?_) ?_
    · refine gstart mxd i142 rfl (by simp) ?_; simp (maxSteps := 2000000) only [↓ S2, S2, vIte, ↓reduceIte, Int.reduceNe, Nat.reduceEqDiff, reduceCtorEq, Nat.reduceLeDiff, Nat.reduceAdd, Nat.reduceLT]
      ((try simp (maxSteps := 2000000) only [↓ S2, S2, vIte, ↓reduceIte, Int.reduceNe, Nat.reduceEqDiff, reduceCtorEq, Nat.reduceLeDiff, Nat.reduceAdd, Nat.reduceLT, isAgg_Ex, geR_Ex, gsize_Ex, stor_Ex]); (repeat (simp only [brGen]; try simp (maxSteps := 2000000) only [↓ S2, S2, vIte, ↓reduceIte, Int.reduceNe, Nat.reduceEqDiff, reduceCtorEq, Nat.reduceLeDiff, Nat.reduceAdd, Nat.reduceLT, isAgg_Ex, geR_Ex, gsize_Ex, stor_Ex])); (try simp +contextual (disch := omega) only [Z2]); (repeat' (first | (with_reducible intro h) | (with_reducible refine And.intro (by omega) ?_) | (with_reducible refine exP (by omega) ?_) | (with_reducible apply And.intro))))
      refine callS.eq (ih a ha (hok e he a ha)) ?_
      ((try simp (maxSteps := 2000000) only [↓ S2, S2, vIte, ↓reduceIte, Int.reduceNe, Nat.reduceEqDiff, reduceCtorEq, Nat.reduceLeDiff, Nat.reduceAdd, Nat.reduceLT]); (repeat (simp only [brGen]; try simp (maxSteps := 2000000) only [↓ S2, S2, vIte, ↓reduceIte, Int.reduceNe, Nat.reduceEqDiff, reduceCtorEq, Nat.reduceLeDiff, Nat.reduceAdd, Nat.reduceLT])); (try simp +contextual (disch := omega) only [Z2]); (repeat' (first | (with_reducible intro h) | (with_reducible refine And.intro (by omega) ?_) | (with_reducible refine exP (by omega) ?_) | (with_reducible apply And.intro))))
    · ((try simp (maxSteps := 2000000) only [↓ S2, S2, vIte, ↓reduceIte, Int.reduceNe, Nat.reduceEqDiff, reduceCtorEq, Nat.reduceLeDiff, Nat.reduceAdd, Nat.reduceLT]); (repeat (simp only [brGen]; try simp (maxSteps := 2000000) only [↓ S2, S2, vIte, ↓reduceIte, Int.reduceNe, Nat.reduceEqDiff, reduceCtorEq, Nat.reduceLeDiff, Nat.reduceAdd, Nat.reduceLT])); (try simp +contextual (disch := omega) only [Z2]); (repeat' (first | (with_reducible intro h) | (with_reducible refine And.intro (by omega) ?_) | (with_reducible refine exP (by omega) ?_) | (with_reducible apply And.intro))))
      rw [allE_eq]
      simp_all [any_not]
  · rw [allE_eq]
    simp_all
end Go.Proofs.Ytajhihnbnonadaa

namespace Go.Proofs.Ytajhihnbnonadaa
open Go.Gh
set_option maxRecDepth 20000
set_option linter.unusedSimpArgs false
set_option linter.unusedVariables false
theorem w184 (c : UInt8) : Pure Try.prog 184 [.val (.int .u8 c.toNat)] (· = B (letV c)) := by
  refine gstart mxd i184 rfl (by simp) ?_; simp (maxSteps := 2000000) only [↓ S2, S2, vIte, ↓reduceIte, Int.reduceNe, Nat.reduceEqDiff, reduceCtorEq, Nat.reduceLeDiff, Nat.reduceAdd, Nat.reduceLT]
  ((try simp (maxSteps := 2000000) only [↓ S2, S2, vIte, ↓reduceIte, Int.reduceNe, Nat.reduceEqDiff, reduceCtorEq, Nat.reduceLeDiff, Nat.reduceAdd, Nat.reduceLT]); (repeat (simp only [brGen]; try simp (maxSteps := 2000000) only [↓ S2, S2, vIte, ↓reduceIte, Int.reduceNe, Nat.reduceEqDiff, reduceCtorEq, Nat.reduceLeDiff, Nat.reduceAdd, Nat.reduceLT])); (try simp +contextual (disch := omega) only [Z2]); (repeat' (first | (with_reducible intro h) | (with_reducible refine And.intro (by omega) ?_) | (with_reducible refine exP (by omega) ?_) | (with_reducible apply And.intro)))) <;> simp_all [letV] <;> (intros; omega)
theorem w185 (c : UInt8) : Pure Try.prog 185 [.val (.int .u8 c.toNat)] (· = B (digV c)) := by
  refine gstart mxd i185 rfl (by simp) ?_; simp (maxSteps := 2000000) only [↓ S2, S2, vIte, ↓reduceIte, Int.reduceNe, Nat.reduceEqDiff, reduceCtorEq, Nat.reduceLeDiff, Nat.reduceAdd, Nat.reduceLT]
  ((try simp (maxSteps := 2000000) only [↓ S2, S2, vIte, ↓reduceIte, Int.reduceNe, Nat.reduceEqDiff, reduceCtorEq, Nat.reduceLeDiff, Nat.reduceAdd, Nat.reduceLT]); (repeat (simp only [brGen]; try simp (maxSteps := 2000000) only [↓ S2, S2, vIte, ↓reduceIte, Int.reduceNe, Nat.reduceEqDiff, reduceCtorEq, Nat.reduceLeDiff, Nat.reduceAdd, Nat.reduceLT])); (try simp +contextual (disch := omega) only [Z2]); (repeat' (first | (with_reducible intro h) | (with_reducible refine And.intro (by omega) ?_) | (with_reducible refine exP (by omega) ?_) | (with_reducible apply And.intro)))) <;> simp_all [digV] <;> (intros; omega)
theorem w192 : Pure Try.prog 192 [] (· = .sl 1 (kwS.map T)) := by
  have o : GCalls Try.prog 192 [] [] (fun g H' => ∃ r, g = .own r 1 0 13 ∧ H' = [(r, 1, kwS.map T)]) := by
    refine gstart mxd i192 rfl (by simp) ?_; simp (maxSteps := 2000000) only [↓ S2, S2, vIte, ↓reduceIte, Int.reduceNe, Nat.reduceEqDiff, reduceCtorEq, Nat.reduceLeDiff, Nat.reduceAdd, Nat.reduceLT]
    intro r hr
    exact ⟨r, rfl, rfl⟩
  refine o.fr ?_
  rintro g H' ⟨r, rfl, rfl⟩
  exact ⟨_, _, FR.freeze hget_new (.all hget_new (by simp [kwS]) (by simp [view, kwS])), rfl⟩
theorem w191 (l : List ByteArray) (s : ByteArray) : Pure Try.prog 191 [.sl 1 (l.map T), T s] (· = B (hasS l s)) := by
  refine GCalls.lenA fun hl => ?_
  have hlen := hl.1.1
  simp only [List.length_map, maxL] at hlen
  refine gstart mxd i191 rfl (by simp) ?_; simp (maxSteps := 2000000) only [↓ S2, S2, vIte, ↓reduceIte, Int.reduceNe, Nat.reduceEqDiff, reduceCtorEq, Nat.reduceLeDiff, Nat.reduceAdd, Nat.reduceLT]
  refine wloop mxd (ι := { i : Nat // i ≤ l.length ∧ ∀ y ∈ l.take i, decide (y = s) = false }) (fun i => [(0, .sl 1 (l.map T)), (1, T s), (5, I i.1)]) (fun _ => []) (fun i => l.length - i.1) ⟨0, by simp⟩ (by simp [E2]) rfl ?_
  rintro ⟨i, hi, hn⟩
  ((try simp (maxSteps := 2000000) only [↓ S2, S2, vIte, ↓reduceIte, Int.reduceNe, Nat.reduceEqDiff, reduceCtorEq, Nat.reduceLeDiff, Nat.reduceAdd, Nat.reduceLT]); (repeat (simp only [brGen]; try simp (maxSteps := 2000000) only [↓ S2, S2, vIte, ↓reduceIte, Int.reduceNe, Nat.reduceEqDiff, reduceCtorEq, Nat.reduceLeDiff, Nat.reduceAdd, Nat.reduceLT])); (try simp +contextual (disch := omega) only [Z2]); (repeat' (first | (with_reducible intro h) | (with_reducible refine And.intro (by omega) ?_) | (with_reducible refine exP (by omega) ?_) | (with_reducible apply And.intro))))
  · rw [hasS_hit (by assumption) h]
  · exact nx ⟨i + 1, by omega, take_step (by assumption) (by simpa using h) hn⟩ (by simp; omega) (by simp [E2]) rfl
  · have : i = l.length := by omega
    subst this
    rw [List.take_of_length_le (Nat.le_refl _)] at hn
    rw [hasS_none hn]
theorem w186 (s : ByteArray) : Pure Try.prog 186 [T s] (· = B (resV s)) := by
  refine gstart mxd i186 rfl (by simp) ?_; simp (maxSteps := 2000000) only [↓ S2, S2, vIte, ↓reduceIte, Int.reduceNe, Nat.reduceEqDiff, reduceCtorEq, Nat.reduceLeDiff, Nat.reduceAdd, Nat.reduceLT]
  ((try simp (maxSteps := 2000000) only [↓ S2, S2, vIte, ↓reduceIte, Int.reduceNe, Nat.reduceEqDiff, reduceCtorEq, Nat.reduceLeDiff, Nat.reduceAdd, Nat.reduceLT]); (repeat (simp only [brGen]; try simp (maxSteps := 2000000) only [↓ S2, S2, vIte, ↓reduceIte, Int.reduceNe, Nat.reduceEqDiff, reduceCtorEq, Nat.reduceLeDiff, Nat.reduceAdd, Nat.reduceLT])); (try simp +contextual (disch := omega) only [Z2]); (repeat' (first | (with_reducible intro h) | (with_reducible refine And.intro (by omega) ?_) | (with_reducible refine exP (by omega) ?_) | (with_reducible apply And.intro))))
  all_goals first | (simp_all [resV, hasS, kwS, show ∀ x, (x = s) = (s = x) from fun x => propext eq_comm]; done) | skip
theorem w190 (s : ByteArray) : Pure Try.prog 190 [T s] (· = B (resV s)) := by
  refine gstart mxd i190 rfl (by simp) ?_; simp (maxSteps := 2000000) only [↓ S2, S2, vIte, ↓reduceIte, Int.reduceNe, Nat.reduceEqDiff, reduceCtorEq, Nat.reduceLeDiff, Nat.reduceAdd, Nat.reduceLT]
  refine callS.eq w192 ?_
  ((try simp (maxSteps := 2000000) only [↓ S2, S2, vIte, ↓reduceIte, Int.reduceNe, Nat.reduceEqDiff, reduceCtorEq, Nat.reduceLeDiff, Nat.reduceAdd, Nat.reduceLT]); (repeat (simp only [brGen]; try simp (maxSteps := 2000000) only [↓ S2, S2, vIte, ↓reduceIte, Int.reduceNe, Nat.reduceEqDiff, reduceCtorEq, Nat.reduceLeDiff, Nat.reduceAdd, Nat.reduceLT])); (try simp +contextual (disch := omega) only [Z2]); (repeat' (first | (with_reducible intro h) | (with_reducible refine And.intro (by omega) ?_) | (with_reducible refine exP (by omega) ?_) | (with_reducible apply And.intro))))
  refine callS.eq (w191 _ _) ?_
  ((try simp (maxSteps := 2000000) only [↓ S2, S2, vIte, ↓reduceIte, Int.reduceNe, Nat.reduceEqDiff, reduceCtorEq, Nat.reduceLeDiff, Nat.reduceAdd, Nat.reduceLT]); (repeat (simp only [brGen]; try simp (maxSteps := 2000000) only [↓ S2, S2, vIte, ↓reduceIte, Int.reduceNe, Nat.reduceEqDiff, reduceCtorEq, Nat.reduceLeDiff, Nat.reduceAdd, Nat.reduceLT])); (try simp +contextual (disch := omega) only [Z2]); (repeat' (first | (with_reducible intro h) | (with_reducible refine And.intro (by omega) ?_) | (with_reducible refine exP (by omega) ?_) | (with_reducible apply And.intro))))
  rfl
theorem w189 (s : ByteArray) (hs : s.size ≤ maxLen) : Pure Try.prog 189 [T s] (· = B (shp (chars s))) := by
  simp only [maxLen, size_chars] at hs
  refine gstart mxd i189 rfl (by simp) ?_; simp (maxSteps := 2000000) only [↓ S2, S2, vIte, ↓reduceIte, Int.reduceNe, Nat.reduceEqDiff, reduceCtorEq, Nat.reduceLeDiff, Nat.reduceAdd, Nat.reduceLT]
  refine wloop mxd (ι := { i : Nat // i ≤ (chars s).length ∧ ∀ (j : Nat) (h : j < (chars s).length), j < i → letV (chars s)[j] = true ∨ (j ≠ 0 ∧ digV (chars s)[j] = true) }) (fun i => [(0, T s), (3, I i.1)]) (fun _ => []) (fun i => (chars s).length - i.1) ⟨0, by simp⟩ (by simp [E2]) rfl ?_
  rintro ⟨i, hi, hn⟩
  ((try simp (maxSteps := 2000000) only [↓ S2, S2, vIte, ↓reduceIte, Int.reduceNe, Nat.reduceEqDiff, reduceCtorEq, Nat.reduceLeDiff, Nat.reduceAdd, Nat.reduceLT]); (repeat (simp only [brGen]; try simp (maxSteps := 2000000) only [↓ S2, S2, vIte, ↓reduceIte, Int.reduceNe, Nat.reduceEqDiff, reduceCtorEq, Nat.reduceLeDiff, Nat.reduceAdd, Nat.reduceLT])); (try simp +contextual (disch := omega) only [Z2]); (repeat' (first | (with_reducible intro h) | (with_reducible refine And.intro (by omega) ?_) | (with_reducible refine exP (by omega) ?_) | (with_reducible apply And.intro))))
  all_goals first
    | (rw [shp_bad (i := i) (by assumption) (by simp only [letV, digV, Bool.and_eq_true, decide_eq_true_eq]; omega)]; done)
    | (have hlt : i < (chars s).length := by omega
       have hg : letV (chars s)[i] = true ∨ (i ≠ 0 ∧ digV (chars s)[i] = true) := by
         simp only [letV, digV, Bool.and_eq_true, decide_eq_true_eq]
         omega
       exact nx ⟨i + 1, by omega, shp_step hlt hn hg⟩ (by simp; omega) (by simp [E2]) rfl)
    | (have : i = (chars s).length := by omega
       subst this
       rw [shp_end hn]
       simp; done)
    | skip
  all_goals have hlt : i < (chars s).length := by omega
  all_goals have hg : letV (chars s)[i] = true ∨ (i ≠ 0 ∧ digV (chars s)[i] = true) := by (simp only [letV, digV, Bool.and_eq_true, decide_eq_true_eq]; omega)
  all_goals refine nx ⟨i + 1, by omega, shp_step hlt hn hg⟩ ?_ ?_ rfl
  all_goals first | (simp only; omega) | exact (by simp [E2]) | skip
end Go.Proofs.Ytajhihnbnonadaa

namespace Go.Proofs.Ytajhihnbnonadaa
open Go.Gh
set_option maxRecDepth 20000
set_option linter.unusedSimpArgs false
set_option linter.unusedVariables false
theorem w182 (s : ByteArray) (hs : s.size ≤ maxLen) : Pure Try.prog 182 [T s] (· = B (nameV s)) := by
  have hs' := hs
  simp only [maxLen, size_chars] at hs'
  refine gstart mxd i182 rfl (by simp) ?_; simp (maxSteps := 2000000) only [↓ S2, S2, vIte, ↓reduceIte, Int.reduceNe, Nat.reduceEqDiff, reduceCtorEq, Nat.reduceLeDiff, Nat.reduceAdd, Nat.reduceLT]
  refine callS.eq (w189 s hs) ?_
  ((try simp (maxSteps := 2000000) only [↓ S2, S2, vIte, ↓reduceIte, Int.reduceNe, Nat.reduceEqDiff, reduceCtorEq, Nat.reduceLeDiff, Nat.reduceAdd, Nat.reduceLT]); (repeat (simp only [brGen]; try simp (maxSteps := 2000000) only [↓ S2, S2, vIte, ↓reduceIte, Int.reduceNe, Nat.reduceEqDiff, reduceCtorEq, Nat.reduceLeDiff, Nat.reduceAdd, Nat.reduceLT])); (try simp +contextual (disch := omega) only [Z2]); (repeat' (first | (with_reducible intro h) | (with_reducible refine And.intro (by omega) ?_) | (with_reducible refine exP (by omega) ?_) | (with_reducible apply And.intro))))
  all_goals try (refine callS.eq (w190 _) ?_; ((try simp (maxSteps := 2000000) only [↓ S2, S2, vIte, ↓reduceIte, Int.reduceNe, Nat.reduceEqDiff, reduceCtorEq, Nat.reduceLeDiff, Nat.reduceAdd, Nat.reduceLT]); (repeat (simp only [brGen]; try simp (maxSteps := 2000000) only [↓ S2, S2, vIte, ↓reduceIte, Int.reduceNe, Nat.reduceEqDiff, reduceCtorEq, Nat.reduceLeDiff, Nat.reduceAdd, Nat.reduceLT])); (try simp +contextual (disch := omega) only [Z2]); (repeat' (first | (with_reducible intro h) | (with_reducible refine And.intro (by omega) ?_) | (with_reducible refine exP (by omega) ?_) | (with_reducible apply And.intro)))))
  all_goals simp_all [nameV]
  all_goals try (intros; omega)
end Go.Proofs.Ytajhihnbnonadaa

namespace Go.Proofs.Ytajhihnbnonadaa
open Go.Gh
set_option maxRecDepth 20000
set_option linter.unusedSimpArgs false
set_option linter.unusedVariables false
set_option maxHeartbeats 2000000 in
theorem w171 (s : ByteArray) (hs : s.size ≤ maxLen) : Pure Try.prog 171 [T s] (· = B (nameV s)) := by
  simp only [maxLen, size_chars] at hs
  refine gstart mxd i171 rfl (by simp) ?_; simp (maxSteps := 2000000) only [↓ S2, S2, vIte, ↓reduceIte, Int.reduceNe, Nat.reduceEqDiff, reduceCtorEq, Nat.reduceLeDiff, Nat.reduceAdd, Nat.reduceLT]
  refine wloop mxd (ι := { i : Nat // i ≤ (chars s).length ∧ ∀ (j : Nat) (h : j < (chars s).length), j < i → letV (chars s)[j] = true ∨ digV (chars s)[j] = true }) (fun i => [(0, T s), (5, I (chars s).length), (6, I i.1)]) (fun _ => []) (fun i => (chars s).length - i.1) ⟨0, by simp⟩ (by simp [E2]) rfl ?_
  rintro ⟨i, hi, hn⟩
  rcases Nat.lt_or_ge i (chars s).length with hlt | hge
  · have hnx : letV (chars s)[i] = true ∨ digV (chars s)[i] = true → ∀ (j : Nat) (h : j < (chars s).length), j < i + 1 → letV (chars s)[j] = true ∨ digV (chars s)[j] = true := fun hg j hj hji => by
      by_cases e : j = i
      · subst e; exact hg
      · exact hn j hj (by omega)
    (repeat' (first | (with_reducible refine callS.eq (w184 _) ?_) | (with_reducible refine callS.eq (w185 _) ?_) | simp (maxSteps := 2000000) only [↓ S2, S2, vIte, ↓reduceIte, Int.reduceNe, Nat.reduceEqDiff, reduceCtorEq, Nat.reduceLeDiff, Nat.reduceAdd, Nat.reduceLT] | simp only [brGen] | simp +contextual (disch := omega) only [Z2] | (with_reducible intro h) | (with_reducible refine And.intro (by omega) ?_) | (with_reducible refine exP (by omega) ?_) | (with_reducible apply And.intro)))
    all_goals try (exfalso; omega)
    · exact nx ⟨i + 1, by omega, hnx (.inl h)⟩ (by show (chars s).length - (i + 1) < (chars s).length - i; omega) (by simp [E2]) rfl
    · exact nx ⟨i + 1, by omega, hnx (.inr h)⟩ (by show (chars s).length - (i + 1) < (chars s).length - i; omega) (by simp [E2]) rfl
    · rw [nameV_parts, shp_no hlt (by assumption) (by assumption)]; rfl
  · have : i = (chars s).length := by omega
    subst this
    (repeat' (first | (with_reducible refine callS.eq (w72 _ _ _) ?_) | (with_reducible refine callS.eq (w184 _) ?_) | (with_reducible refine callS.eq (w186 _) ?_) | simp (maxSteps := 2000000) only [↓ S2, S2, vIte, ↓reduceIte, Int.reduceNe, Nat.reduceEqDiff, reduceCtorEq, Nat.reduceLeDiff, Nat.reduceAdd, Nat.reduceLT] | simp only [brGen] | simp +contextual (disch := omega) only [Z2] | (with_reducible intro h) | (with_reducible refine And.intro (by omega) ?_) | (with_reducible refine exP (by omega) ?_) | (with_reducible apply And.intro)))
    all_goals try (exfalso; omega)
    all_goals first
      | (rw [nameV_parts, shp_yes (by omega) (by assumption) (fun j h => hn j h h), decide_eq_true (by omega)]; rfl)
      | (rw [nameV_parts, shp_no0 (by omega) (by assumption)]; rfl)
      | (rw [nameV_parts, decide_eq_false (show ¬ (chars s).length ≤ 8 by omega), Bool.and_false]; rfl)
      | (rcases Nat.eq_zero_or_pos (chars s).length with h0 | h0
         · rw [nameV_parts, List.eq_nil_of_length_eq_zero h0]; rfl
         · rw [nameV_parts, decide_eq_false (show ¬ (chars s).length ≤ 8 by omega), Bool.and_false]; rfl)
theorem w75 : ∀ e : Exp, wEx e ≤ 1048576 → Pure Try.prog 75 [Ex e] (· = B (allE constN e)) := by
  refine Exp.indA fun e ih hw => ?_
  obtain ⟨hl, ha⟩ := args_small hw
  refine gstart mxd i75 rfl (by simp) ?_; simp (maxSteps := 2000000) only [↓ S2, S2, vIte, ↓reduceIte, Int.reduceNe, Nat.reduceEqDiff, reduceCtorEq, Nat.reduceLeDiff, Nat.reduceAdd, Nat.reduceLT]
  simp (maxSteps := 2000000) only [↓ S2, S2, vIte, ↓reduceIte, Int.reduceNe, Nat.reduceEqDiff, reduceCtorEq, Nat.reduceLeDiff, Nat.reduceAdd, Nat.reduceLT, XE]
  refine wloop mxd (ι := { i : Nat // i ≤ e.args.length ∧ ∀ a ∈ e.args.take i, allE constN a = true }) (fun i => [(1, .rop 7 (Ex e)), (3, I i.1)]) (fun _ => []) (fun i => e.args.length - i.1) ⟨0, by simp⟩ (by simp [E2]) rfl ?_
  rintro ⟨i, hi, hn⟩
  rcases Nat.lt_or_ge i e.args.length with hlt | hge
  · (repeat' (first | (with_reducible refine callS.eq (ih _ (List.getElem_mem hlt) (ha _ (List.getElem_mem hlt))) ?_) | simp (maxSteps := 2000000) only [↓ S2, S2, vIte, ↓reduceIte, Int.reduceNe, Nat.reduceEqDiff, reduceCtorEq, Nat.reduceLeDiff, Nat.reduceAdd, Nat.reduceLT, XE] | simp only [brGen] | simp +contextual (disch := omega) only [Z2] | (with_reducible intro h) | (with_reducible refine And.intro (by omega) ?_) | (with_reducible refine exP (by omega) ?_) | (with_reducible apply And.intro)))
    all_goals try (exfalso; omega)
    · exact nx ⟨i + 1, by omega, all_take hlt (by assumption) hn⟩ (by simp; omega) (by simp [E2]) rfl
    · rw [allE_no hlt (by assumption)]
  · have : i = e.args.length := by omega
    subst this
    rw [List.take_of_length_le (Nat.le_refl _)] at hn
    rw [allE_yes hn]
    ((try simp (maxSteps := 2000000) only [↓ S2, S2, vIte, ↓reduceIte, Int.reduceNe, Nat.reduceEqDiff, reduceCtorEq, Nat.reduceLeDiff, Nat.reduceAdd, Nat.reduceLT, XE]); (repeat (simp only [brGen]; try simp (maxSteps := 2000000) only [↓ S2, S2, vIte, ↓reduceIte, Int.reduceNe, Nat.reduceEqDiff, reduceCtorEq, Nat.reduceLeDiff, Nat.reduceAdd, Nat.reduceLT, XE])); (try simp +contextual (disch := omega) only [Z2]); (repeat' (first | (with_reducible intro h) | (with_reducible refine And.intro (by omega) ?_) | (with_reducible refine exP (by omega) ?_) | (with_reducible apply And.intro))))
    all_goals (simp_all [constN]; done)
set_option maxHeartbeats 20000000 in
theorem w172 (e : Exp) (k n p t : Int) (s m : ByteArray) (a : List Exp) : Pure Try.prog 172 [Ex e, .agg [I k, I n, I p, I t, T s, T m, ExS a]] (· = B (decide (e.kind = k) && (decide (e.n = n) && (decide (e.pos = p) && (decide (e.type = t) && (decide (e.sym = s) && decide (e.name = m))))))) := by
  refine gstart mxd i172 rfl (by simp) ?_; simp (maxSteps := 2000000) only [↓ S2, S2, vIte, ↓reduceIte, Int.reduceNe, Nat.reduceEqDiff, reduceCtorEq, Nat.reduceLeDiff, Nat.reduceAdd, Nat.reduceLT]
  (repeat' (first | (with_reducible refine callS.eq (w72 _ _ _) ?_) | simp (maxSteps := 2000000) only [↓ S2, S2, vIte, ↓reduceIte, Int.reduceNe, Nat.reduceEqDiff, reduceCtorEq, Nat.reduceLeDiff, Nat.reduceAdd, Nat.reduceLT, XE] | simp only [brGen] | simp +contextual (disch := omega) only [Z2] | (with_reducible intro h) | (with_reducible refine And.intro (by omega) ?_) | (with_reducible refine exP (by omega) ?_) | (with_reducible apply And.intro)))
  all_goals (simp_all; done)
end Go.Proofs.Ytajhihnbnonadaa

namespace Go.Proofs.Ytajhihnbnonadaa
open Go.Gh
set_option maxRecDepth 20000
set_option linter.unusedSimpArgs false
set_option linter.unusedVariables false
set_option maxHeartbeats 20000000 in
theorem w76 (sl : List Slo) (lit : Int) (ids : List Int) (hi : ids.length ≤ 1048576) : ∀ e : Exp, allE nodeV e = true → Pure Try.prog 76 [Ex e, SltS sl, I lit, IS ids] (· = I (evE sl lit ids e)) := by
  refine Exp.indA fun e ih hv => ?_
  obtain ⟨hn, ha⟩ := allE_args hv
  have hp := nodeV_pos hn
  have har := nodeV_args hn
  rw [evE_eq]
  have hk : e.kind = 1 ∨ e.kind = 2 ∨ e.kind = 3 ∨ e.kind = 4 ∨ e.kind = 5 ∨ e.kind = 6 ∨ (¬ e.kind = 1 ∧ ¬ e.kind = 2 ∧ ¬ e.kind = 3 ∧ ¬ e.kind = 4 ∧ ¬ e.kind = 5 ∧ ¬ e.kind = 6) := by omega
  rcases hk with hk | hk | hk | hk | hk | hk | hk
  all_goals
    simp [arity, hk] at har
    refine gstart mxd i76 rfl (by simp) ?_; simp (maxSteps := 2000000) only [↓ S2, S2, vIte, ↓reduceIte, Int.reduceNe, Nat.reduceEqDiff, reduceCtorEq, Nat.reduceLeDiff, Nat.reduceAdd, Nat.reduceLT]
    (repeat' (first | (with_reducible refine callS.eq (w136 sl (e.pos, e.name)) ?_) | (with_reducible refine callS.eq (ih _ (List.getElem_mem _) (ha _ (List.getElem_mem _))) ?_) | (with_reducible refine callS.eq (w137 _ _ _) ?_) | (with_reducible refine callS.eq (w92 _ _ _) ?_) | simp (maxSteps := 2000000) only [↓ S2, S2, vIte, ↓reduceIte, Int.reduceNe, Nat.reduceEqDiff, reduceCtorEq, Nat.reduceLeDiff, Nat.reduceAdd, Nat.reduceLT, XE, hk] | simp only [brGen] | simp +contextual (disch := omega) only [Z2] | (with_reducible intro h) | (with_reducible refine And.intro (by omega) ?_) | (with_reducible refine exP (by omega) ?_) | (with_reducible apply And.intro)))
    all_goals try (exfalso; omega)
    all_goals simp only [evK, hk, Int.reduceEq, reduceIte]
    all_goals first
      | rfl
      | (rw [getDm (by omega), getDm (by omega)]; rfl)
      | (rw [getDm (by omega), if_pos (by assumption), getDm (by omega)]; rfl)
      | (rw [getDm (by omega), if_neg (by assumption), getDm (by omega)]; rfl)
      | (rw [if_pos (by omega), getD_lt (by omega)]; done)
      | (rw [if_neg (by omega)]; done)
theorem w85 (sl : List Slo) (o : Int × ByteArray) : Pure Try.prog 85 [Occ o, .rop 1 (SltS sl)] (· = I (slotValue sl o)) := by
  refine gstart mxd i85 rfl (by simp) ?_; simp (maxSteps := 2000000) only [↓ S2, S2, vIte, ↓reduceIte, Int.reduceNe, Nat.reduceEqDiff, reduceCtorEq, Nat.reduceLeDiff, Nat.reduceAdd, Nat.reduceLT]
  (repeat' (first | (with_reducible refine callS.eq (w86 sl o) ?_) | simp (maxSteps := 2000000) only [↓ S2, S2, vIte, ↓reduceIte, Int.reduceNe, Nat.reduceEqDiff, reduceCtorEq, Nat.reduceLeDiff, Nat.reduceAdd, Nat.reduceLT] | simp only [brGen] | simp +contextual (disch := omega) only [Z2] | (with_reducible intro h) | (with_reducible refine And.intro (by omega) ?_) | (with_reducible refine exP (by omega) ?_) | (with_reducible apply And.intro)))
theorem w87 (n : Int) (e : Exp) : Pure Try.prog 87 [I n, Ex e] (· = I 0) := by
  refine gstart mxd i87 rfl (by simp) ?_; simp (maxSteps := 2000000) only [↓ S2, S2, vIte, ↓reduceIte, Int.reduceNe, Nat.reduceEqDiff, reduceCtorEq, Nat.reduceLeDiff, Nat.reduceAdd, Nat.reduceLT]
  ((try simp (maxSteps := 2000000) only [↓ S2, S2, vIte, ↓reduceIte, Int.reduceNe, Nat.reduceEqDiff, reduceCtorEq, Nat.reduceLeDiff, Nat.reduceAdd, Nat.reduceLT, XE]); (repeat (simp only [brGen]; try simp (maxSteps := 2000000) only [↓ S2, S2, vIte, ↓reduceIte, Int.reduceNe, Nat.reduceEqDiff, reduceCtorEq, Nat.reduceLeDiff, Nat.reduceAdd, Nat.reduceLT, XE])); (try simp +contextual (disch := omega) only [Z2]); (repeat' (first | (with_reducible intro h) | (with_reducible refine And.intro (by omega) ?_) | (with_reducible refine exP (by omega) ?_) | (with_reducible apply And.intro))))
theorem w143 (l : List Int) (x : Int) : Pure Try.prog 143 [IS l, I x] (· = I (ixOf (fun y => decide (y = x)) l)) := by
  refine GCalls.lenA fun hl => ?_
  have hlen := hl.1.1
  simp only [List.length_map, maxL] at hlen
  refine gstart mxd i143 rfl (by simp) ?_; simp (maxSteps := 2000000) only [↓ S2, S2, vIte, ↓reduceIte, Int.reduceNe, Nat.reduceEqDiff, reduceCtorEq, Nat.reduceLeDiff, Nat.reduceAdd, Nat.reduceLT]
  refine wloop mxd (ι := { i : Nat // i ≤ l.length ∧ ∀ y ∈ l.take i, decide (y = x) = false }) (fun i => [(0, IS l), (1, I x), (7, I l.length), (8, I i.1)]) (fun _ => []) (fun i => l.length - i.1) ⟨0, by simp⟩ (by simp [E2]) rfl ?_
  rintro ⟨i, hi, hn⟩
  ((try simp (maxSteps := 2000000) only [↓ S2, S2, vIte, ↓reduceIte, Int.reduceNe, Nat.reduceEqDiff, reduceCtorEq, Nat.reduceLeDiff, Nat.reduceAdd, Nat.reduceLT]); (repeat (simp only [brGen]; try simp (maxSteps := 2000000) only [↓ S2, S2, vIte, ↓reduceIte, Int.reduceNe, Nat.reduceEqDiff, reduceCtorEq, Nat.reduceLeDiff, Nat.reduceAdd, Nat.reduceLT])); (try simp +contextual (disch := omega) only [Z2]); (repeat' (first | (with_reducible intro h) | (with_reducible refine And.intro (by omega) ?_) | (with_reducible refine exP (by omega) ?_) | (with_reducible apply And.intro))))
  · subst h
    rw [ixOf_hit (p := fun y => decide (y = l[i])) (by assumption) (by simp) hn]
  · exact nx ⟨i + 1, by omega, take_step (by assumption) (by simpa [eq_comm] using h) hn⟩ (by simp; omega) (by simp [E2]) rfl
  · have : i = l.length := by omega
    subst this
    rw [List.take_of_length_le (Nat.le_refl _)] at hn
    rw [ixOf_none hn]
theorem w81 (l : List Int) (x : Int) : Pure Try.prog 81 [IS l, I x] (· = B (decide (0 ≤ ixOf (fun y => decide (y = x)) l))) := by
  refine gstart mxd i81 rfl (by simp) ?_; simp (maxSteps := 2000000) only [↓ S2, S2, vIte, ↓reduceIte, Int.reduceNe, Nat.reduceEqDiff, reduceCtorEq, Nat.reduceLeDiff, Nat.reduceAdd, Nat.reduceLT]
  (repeat' (first | (with_reducible refine callS.eq (w143 l x) ?_) | simp (maxSteps := 2000000) only [↓ S2, S2, vIte, ↓reduceIte, Int.reduceNe, Nat.reduceEqDiff, reduceCtorEq, Nat.reduceLeDiff, Nat.reduceAdd, Nat.reduceLT] | simp only [brGen] | simp +contextual (disch := omega) only [Z2] | (with_reducible intro h) | (with_reducible refine And.intro (by omega) ?_) | (with_reducible refine exP (by omega) ?_) | (with_reducible apply And.intro)))
theorem w80 (e : Exp) : Pure Try.prog 80 [Ex e, .rop 1 (IS [1, 4, 5])] (· = B (constN e)) := by
  rw [← constN_eq]
  refine gstart mxd i80 rfl (by simp) ?_; simp (maxSteps := 2000000) only [↓ S2, S2, vIte, ↓reduceIte, Int.reduceNe, Nat.reduceEqDiff, reduceCtorEq, Nat.reduceLeDiff, Nat.reduceAdd, Nat.reduceLT]
  have hc := w81 [1, 4, 5] e.kind
  simp only [IS, List.map_cons, List.map_nil] at hc
  (repeat' (first | (with_reducible refine callS.eq (hc) ?_) | simp (maxSteps := 2000000) only [↓ S2, S2, vIte, ↓reduceIte, Int.reduceNe, Nat.reduceEqDiff, reduceCtorEq, Nat.reduceLeDiff, Nat.reduceAdd, Nat.reduceLT, XE] | simp only [brGen] | simp +contextual (disch := omega) only [Z2] | (with_reducible intro h) | (with_reducible refine And.intro (by omega) ?_) | (with_reducible refine exP (by omega) ?_) | (with_reducible apply And.intro)))
end Go.Proofs.Ytajhihnbnonadaa

namespace Go.Proofs.Ytajhihnbnonadaa
open Go.Gh
set_option maxRecDepth 20000
set_option linter.unusedSimpArgs false
set_option linter.unusedVariables false
set_option maxHeartbeats 20000000 in
theorem w88 (sl : List Slo) (lit : Int) (ids : List Int) (hi : ids.length ≤ 1048576) : ∀ e : Exp, allE nodeV e = true → Pure Try.prog 88 [.agg [.clo 85 [.rop 1 (SltS sl)], .clo 87 [], I lit, IS ids], Ex e] (· = I (evE sl lit ids e)) := by
  refine Exp.indA fun e ih hv => ?_
  obtain ⟨hn, ha⟩ := allE_args hv
  have hp := nodeV_pos hn
  have har := nodeV_args hn
  rw [evE_eq]
  have hk : e.kind = 1 ∨ e.kind = 2 ∨ e.kind = 3 ∨ e.kind = 4 ∨ e.kind = 5 ∨ e.kind = 6 ∨ e.kind = 8 ∨ (¬ e.kind = 1 ∧ ¬ e.kind = 2 ∧ ¬ e.kind = 3 ∧ ¬ e.kind = 4 ∧ ¬ e.kind = 5 ∧ ¬ e.kind = 6 ∧ ¬ e.kind = 8) := by omega
  rcases hk with hk | hk | hk | hk | hk | hk | hk | hk
  all_goals
    simp [arity, hk] at har
    refine gstart mxd i88 rfl (by simp) ?_; simp (maxSteps := 2000000) only [↓ S2, S2, vIte, ↓reduceIte, Int.reduceNe, Nat.reduceEqDiff, reduceCtorEq, Nat.reduceLeDiff, Nat.reduceAdd, Nat.reduceLT]
    (repeat' (first | (with_reducible refine callS.eq (w85 sl (e.pos, e.name)) ?_) | (with_reducible refine callS.eq (w87 _ e) ?_) | (with_reducible refine callS.eq (ih _ (List.getElem_mem _) (ha _ (List.getElem_mem _))) ?_) | (with_reducible refine callS.eq (w144 _ _ _) ?_) | simp (maxSteps := 2000000) only [↓ S2, S2, vIte, ↓reduceIte, Int.reduceNe, Nat.reduceEqDiff, reduceCtorEq, Nat.reduceLeDiff, Nat.reduceAdd, Nat.reduceLT, XE, hk] | simp only [brGen] | simp +contextual (disch := omega) only [Z2] | (with_reducible intro h) | (with_reducible refine And.intro (by omega) ?_) | (with_reducible refine exP (by omega) ?_) | (with_reducible apply And.intro)))
    all_goals try (exfalso; omega)
    all_goals simp only [evK, hk, Int.reduceEq, reduceIte]
    all_goals first
      | rfl
      | (rw [getDm (by omega), getDm (by omega)]; rfl)
      | (rw [getDm (by omega), if_pos (by assumption), getDm (by omega)]; rfl)
      | (rw [getDm (by omega), if_neg (by assumption), getDm (by omega)]; rfl)
      | (rw [if_pos (by omega), getD_lt (by omega)]; done)
      | (rw [if_neg (by omega)]; done)
end Go.Proofs.Ytajhihnbnonadaa

