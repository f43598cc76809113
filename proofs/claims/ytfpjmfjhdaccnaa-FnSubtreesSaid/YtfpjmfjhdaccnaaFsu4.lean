/- The law FnSubtrees returns true whatever the input, and the input reads behind the call as before. No condition. -/
import Derived.Test.YtfpjmfjhdaccnaaFsu3
set_option linter.unusedSimpArgs false
set_option linter.unusedVariables false
set_option maxHeartbeats 40000000
namespace Go.Proofs.Ytfpjmfjhdaccnaa
open Go.Gh
open Nat (reduceEqDiff reduceLeDiff reduceAdd reduceLT)
open Int (reduceNe)
set_option maxRecDepth 20000
set_option linter.unusedSimpArgs false
set_option linter.unusedVariables false
theorem Try.dec_i {p : Prop} {i : Decidable p} : (@decide p i = true) = p := propext ⟨of_decide_eq_true, decide_eq_true⟩
theorem Try.chN (s : ByteArray) : (chars s = chars (⟨#[]⟩ : ByteArray)) = (s = noS) := propext chars_inj
theorem w120 (e : Exp) (hl : e.args.length ≤ 1048576) : Pu 120 [Ex e] (· = B (bareV e)) := by
 have hk : e.kind = 1 ∨ e.kind = 3 ∨ e.kind = 4 ∨ e.kind = 5 ∨ e.kind = 6 ∨ e.kind = 8 ∨ (¬ e.kind = 1 ∧ ¬ e.kind = 3 ∧ ¬ e.kind = 4 ∧ ¬ e.kind = 5 ∧ ¬ e.kind = 6 ∧ ¬ e.kind = 8) := by omega
 have hl0 : ((e.args.length : Int) = 0) = (e.args.length = 0) := propext (by omega)
 have hl1 : ((e.args.length : Int) = 1) = (e.args.length = 1) := propext (by omega)
 have hl2 : ((e.args.length : Int) = 2) = (e.args.length = 2) := propext (by omega)
 have hl3 : ((e.args.length : Int) = 3) = (e.args.length = 3) := propext (by omega)
 rcases hk with hk | hk | hk | hk | hk | hk | ⟨hk1, hk3, hk4, hk5, hk6, hk8⟩
 all_goals
  refine gstart mxd i120 rfl (by simp) ?_; simp (maxSteps := 9^7) only [↓ S2, S2, vIte, ↓reduceIte, reduceNe, reduceEqDiff, reduceCtorEq, reduceLeDiff, reduceAdd, reduceLT]
  first | simp (maxSteps := 9^7) only [↓ S2, S2, vIte, ↓reduceIte, reduceNe, reduceEqDiff, reduceCtorEq, reduceLeDiff, reduceAdd, reduceLT, XE, hk, Int.reduceEq, decide_false, decide_true, hl0, hl1, hl2, hl3] | simp (maxSteps := 9^7) only [↓ S2, S2, vIte, ↓reduceIte, reduceNe, reduceEqDiff, reduceCtorEq, reduceLeDiff, reduceAdd, reduceLT, XE, hk1, hk3, hk4, hk5, hk6, hk8, Int.reduceEq, decide_false, decide_true, hl0, hl1, hl2, hl3]
  try simp only [Try.chN]
  clear hl0 hl1 hl2 hl3
  (with_reducible repeat' (first | intro h | refine And.intro (by omega) ?_ | refine exP (by omega) ?_ | apply And.intro))
  all_goals
   congr 2
   rw [Bool.eq_iff_iff]
   simp [bareV, arity, Try.dec_i, *]
theorem w118 (e : Exp) (hl : e.args.length ≤ 1048576) (ho : okE e) : Pu 118 [Ex e] (· = B (nodeV e)) := by
 obtain ⟨hs, hm, _⟩ := okE_eq.1 ho
 have hk : e.kind = 1 ∨ e.kind = 2 ∨ e.kind = 3 ∨ e.kind = 4 ∨ e.kind = 5 ∨ e.kind = 6 ∨ e.kind = 7 ∨ e.kind = 8 ∨ (¬ (1 ≤ e.kind ∧ e.kind ≤ 8)) := by omega
 rcases hk with hk | hk | hk | hk | hk | hk | hk | hk | hk
 all_goals
  refine gstart mxd i118 rfl (by simp) ?_; simp (maxSteps := 9^7) only [↓ S2, S2, vIte, ↓reduceIte, reduceNe, reduceEqDiff, reduceCtorEq, reduceLeDiff, reduceAdd, reduceLT]
  (repeat' (first | (with_reducible refine callS.eq (w45 _ _ _) ?_) | (with_reducible refine callS.eq (w120 e hl) ?_) | (with_reducible refine callS.eq (w91 _ _) ?_) | (with_reducible refine callS.eq (w121 _ hs) ?_) | (with_reducible refine callS.eq (w121 _ hm) ?_) | simp (maxSteps := 9^7) only [↓ S2, S2, vIte, ↓reduceIte, reduceNe, reduceEqDiff, reduceCtorEq, reduceLeDiff, reduceAdd, reduceLT, XE, hk] | simp only [brGen] | simp +contextual (disch := omega) only [Z2] | with_reducible first | intro h | refine And.intro (by omega) ?_ | refine exP (by omega) ?_ | apply And.intro))
  all_goals try exact oF
  all_goals first
   | (simp_all [nodeV]; done)
   | (simp_all [nodeV]; intros; omega)
   | (congr 2; rw [Bool.eq_iff_iff]; simp [nodeV, hk, *]; done)
theorem w112 : ∀ e : Exp, okE e → wEx e ≤ 1048576 → Pu 112 [Ex e] (· = B (allE nodeV e)) := by
 refine Exp.indA fun e ih ho hw => ?_
 obtain ⟨hl, ha⟩ := args_small hw
 obtain ⟨_, _, hoa⟩ := okE_eq.1 ho
 refine gstart mxd i112 rfl (by simp) ?_; simp (maxSteps := 9^7) only [↓ S2, S2, vIte, ↓reduceIte, reduceNe, reduceEqDiff, reduceCtorEq, reduceLeDiff, reduceAdd, reduceLT]
 simp (maxSteps := 9^7) only [↓ S2, S2, vIte, ↓reduceIte, reduceNe, reduceEqDiff, reduceCtorEq, reduceLeDiff, reduceAdd, reduceLT, XE]
 refine wloop mxd (ι := { i : Nat // i ≤ e.args.length ∧ ∀ a ∈ e.args.take i, allE nodeV a = true }) (fun i => [(1, .rop 7 (Ex e)), (3, I i.1)]) (fun _ => []) (fun i => e.args.length - i.1) ⟨0, by simp⟩ (by simp [E2]) rfl ?_
 rintro ⟨i, hi, hn⟩
 rcases nL i e.args.length with hlt | hge
 ·(repeat' (first | (with_reducible refine callS.eq (ih _ (gM hlt) (hoa _ (gM hlt)) (ha _ (gM hlt))) ?_) | simp (maxSteps := 9^7) only [↓ S2, S2, vIte, ↓reduceIte, reduceNe, reduceEqDiff, reduceCtorEq, reduceLeDiff, reduceAdd, reduceLT, XE] | simp only [brGen] | simp +contextual (disch := omega) only [Z2] | with_reducible first | intro h | refine And.intro (by omega) ?_ | refine exP (by omega) ?_ | apply And.intro))
  all_goals try exact oF
  ·exact nx ⟨i + 1, by omega, all_take hlt (by assumption) hn⟩ (by simp; omega) (by simp [E2]) rfl
  ·rw [allE_no hlt (by assumption)]
 ·have : i = e.args.length := by omega
  subst this
  rw [tL (Nat.le_refl _)] at hn
  rw [allE_yes hn]
  (repeat' (first | (with_reducible refine callS.eq (w118 e hl ho) ?_) | simp (maxSteps := 9^7) only [↓ S2, S2, vIte, ↓reduceIte, reduceNe, reduceEqDiff, reduceCtorEq, reduceLeDiff, reduceAdd, reduceLT, XE] | simp only [brGen] | simp +contextual (disch := omega) only [Z2] | with_reducible first | intro h | refine And.intro (by omega) ?_ | refine exP (by omega) ?_ | apply And.intro))
theorem w98 (e : Exp) (ho : okE e) (hw : wEx e ≤ 1048576) : Pu 98 [Ex e] (· = B (validE e)) := by
 have hc := cntE_le e
 have hd := dpE_le e
 refine gstart mxd i98 rfl (by simp) ?_; simp (maxSteps := 9^7) only [↓ S2, S2, vIte, ↓reduceIte, reduceNe, reduceEqDiff, reduceCtorEq, reduceLeDiff, reduceAdd, reduceLT]
 (repeat' (first | (with_reducible refine callS.eq (w110 e hw _ (by omega) (by omega)) ?_) | (with_reducible refine callS.eq (w111 e hw) ?_) | (with_reducible refine callS.eq (w112 e ho hw) ?_) | simp (maxSteps := 9^7) only [↓ S2, S2, vIte, ↓reduceIte, reduceNe, reduceEqDiff, reduceCtorEq, reduceLeDiff, reduceAdd, reduceLT, XE] | simp only [brGen] | simp +contextual (disch := omega) only [Z2] | with_reducible first | intro h | refine And.intro (by omega) ?_ | refine exP (by omega) ?_ | apply And.intro))
 all_goals (simp only [validE])
 all_goals first
  | (rw [decide_eq_true (show cntE e ≤ 24 by omega), decide_eq_true (show dpE e ≤ 6 by omega)]; rfl)
  | (rw [decide_eq_false (show ¬ cntE e ≤ 24 by omega)]; rfl)
  | (rw [decide_eq_false (show ¬ dpE e ≤ 6 by omega), Bool.and_false]; rfl)
end Go.Proofs.Ytfpjmfjhdaccnaa
