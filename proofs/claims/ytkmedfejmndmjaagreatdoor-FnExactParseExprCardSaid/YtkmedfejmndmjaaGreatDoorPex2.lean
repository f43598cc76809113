/- The tied card of the law FnExactParseExpr holds. No condition. -/
import Derived.Test.YtkmedfejmndmjaaGreatDoorPex1
set_option linter.unusedSimpArgs false
set_option linter.unusedVariables false
namespace Go.Proofs.YtkmedfejmndmjaaGreatDoor
open Go.Gh
set_option maxRecDepth 20000
set_option linter.unusedSimpArgs false
set_option linter.unusedVariables false
set_option maxHeartbeats 2000000 in
theorem w83 (s : ByteArray) (hs : s.size ≤ maxLen) : Pure Tryz.prog 83 [T s] (· = B (nameV s)) := by
  simp only [maxLen, size_chars] at hs
  refine gstart mxd i83 rfl (by simp) ?_; simp (maxSteps := 2000000) only [↓ S2, S2, vIte, ↓reduceIte, Int.reduceNe, Nat.reduceEqDiff, reduceCtorEq, Nat.reduceLeDiff, Nat.reduceAdd, Nat.reduceLT]
  refine wloop mxd (ι := { i : Nat // i ≤ (chars s).length ∧ ∀ (j : Nat) (h : j < (chars s).length), j < i → letV (chars s)[j] = true ∨ digV (chars s)[j] = true }) (fun i => [(0, T s), (5, I (chars s).length), (6, I i.1)]) (fun _ => []) (fun i => (chars s).length - i.1) ⟨0, by simp⟩ (by simp [E2]) rfl ?_
  rintro ⟨i, hi, hn⟩
  rcases Nat.lt_or_ge i (chars s).length with hlt | hge
  · have hnx : letV (chars s)[i] = true ∨ digV (chars s)[i] = true → ∀ (j : Nat) (h : j < (chars s).length), j < i + 1 → letV (chars s)[j] = true ∨ digV (chars s)[j] = true := fun hg j hj hji => by
      by_cases e : j = i
      · subst e; exact hg
      · exact hn j hj (by omega)
    (repeat' (first | (with_reducible refine callS.eq (w96 _) ?_) | (with_reducible refine callS.eq (w97 _) ?_) | simp (maxSteps := 2000000) only [↓ S2, S2, vIte, ↓reduceIte, Int.reduceNe, Nat.reduceEqDiff, reduceCtorEq, Nat.reduceLeDiff, Nat.reduceAdd, Nat.reduceLT] | simp only [brGen] | simp +contextual (disch := omega) only [Z2] | (with_reducible intro h) | (with_reducible refine And.intro (by omega) ?_) | (with_reducible refine exP (by omega) ?_) | (with_reducible apply And.intro)))
    all_goals try (exfalso; omega)
    · exact nx ⟨i + 1, by omega, hnx (.inl h)⟩ (by show (chars s).length - (i + 1) < (chars s).length - i; omega) (by simp [E2]) rfl
    · exact nx ⟨i + 1, by omega, hnx (.inr h)⟩ (by show (chars s).length - (i + 1) < (chars s).length - i; omega) (by simp [E2]) rfl
    · rw [nameV_parts, shp_no hlt (by assumption) (by assumption)]; rfl
  · have : i = (chars s).length := by omega
    subst this
    (repeat' (first | (with_reducible refine callS.eq (w84 _ _ _) ?_) | (with_reducible refine callS.eq (w96 _) ?_) | (with_reducible refine callS.eq (w114 _) ?_) | simp (maxSteps := 2000000) only [↓ S2, S2, vIte, ↓reduceIte, Int.reduceNe, Nat.reduceEqDiff, reduceCtorEq, Nat.reduceLeDiff, Nat.reduceAdd, Nat.reduceLT] | simp only [brGen] | simp +contextual (disch := omega) only [Z2] | (with_reducible intro h) | (with_reducible refine And.intro (by omega) ?_) | (with_reducible refine exP (by omega) ?_) | (with_reducible apply And.intro)))
    all_goals try (exfalso; omega)
    all_goals first
      | (rw [nameV_parts, shp_yes (by omega) (by assumption) (fun j h => hn j h h), decide_eq_true (by omega)]; rfl)
      | (rw [nameV_parts, shp_no0 (by omega) (by assumption)]; rfl)
      | (rw [nameV_parts, decide_eq_false (show ¬ (chars s).length ≤ 8 by omega), Bool.and_false]; rfl)
      | (rcases Nat.eq_zero_or_pos (chars s).length with h0 | h0
         · rw [nameV_parts, List.eq_nil_of_length_eq_zero h0]; rfl
         · rw [nameV_parts, decide_eq_false (show ¬ (chars s).length ≤ 8 by omega), Bool.and_false]; rfl)
set_option maxHeartbeats 20000000 in
theorem w36 (e : Exp) (k n p t : Int) (s m : ByteArray) (a : List Exp) : Pure Tryz.prog 36 [Ex e, .agg [I k, I n, I p, I t, T s, T m, ExS a]] (· = B (decide (e.kind = k) && (decide (e.n = n) && (decide (e.pos = p) && (decide (e.type = t) && (decide (e.sym = s) && decide (e.name = m))))))) := by
  refine gstart mxd i36 rfl (by simp) ?_; simp (maxSteps := 2000000) only [↓ S2, S2, vIte, ↓reduceIte, Int.reduceNe, Nat.reduceEqDiff, reduceCtorEq, Nat.reduceLeDiff, Nat.reduceAdd, Nat.reduceLT]
  (repeat' (first | (with_reducible refine callS.eq (w84 _ _ _) ?_) | simp (maxSteps := 2000000) only [↓ S2, S2, vIte, ↓reduceIte, Int.reduceNe, Nat.reduceEqDiff, reduceCtorEq, Nat.reduceLeDiff, Nat.reduceAdd, Nat.reduceLT, XE] | simp only [brGen] | simp +contextual (disch := omega) only [Z2] | (with_reducible intro h) | (with_reducible refine And.intro (by omega) ?_) | (with_reducible refine exP (by omega) ?_) | (with_reducible apply And.intro)))
  all_goals (simp_all; done)
end Go.Proofs.YtkmedfejmndmjaaGreatDoor

namespace Go.Proofs.YtkmedfejmndmjaaGreatDoor
open Go.Gh
set_option maxRecDepth 20000
set_option linter.unusedSimpArgs false
set_option linter.unusedVariables false
theorem Tryz.dec_i {p : Prop} {i : Decidable p} : (@decide p i = true) = p := propext ⟨of_decide_eq_true, decide_eq_true⟩
theorem Tryz.chN (s : ByteArray) : (chars s = chars (⟨#[]⟩ : ByteArray)) = (s = noS) := propext chars_inj
set_option maxHeartbeats 20000000 in
theorem w94 (e : Exp) (hl : e.args.length ≤ 1048576) : Pure Tryz.prog 94 [Ex e] (· = B (bareV e)) := by
  have hk : e.kind = 1 ∨ e.kind = 3 ∨ e.kind = 4 ∨ e.kind = 5 ∨ e.kind = 6 ∨ e.kind = 8 ∨ (¬ e.kind = 1 ∧ ¬ e.kind = 3 ∧ ¬ e.kind = 4 ∧ ¬ e.kind = 5 ∧ ¬ e.kind = 6 ∧ ¬ e.kind = 8) := by omega
  have hl0 : ((e.args.length : Int) = 0) = (e.args.length = 0) := propext (by omega)
  have hl1 : ((e.args.length : Int) = 1) = (e.args.length = 1) := propext (by omega)
  have hl2 : ((e.args.length : Int) = 2) = (e.args.length = 2) := propext (by omega)
  have hl3 : ((e.args.length : Int) = 3) = (e.args.length = 3) := propext (by omega)
  rcases hk with hk | hk | hk | hk | hk | hk | ⟨hk1, hk3, hk4, hk5, hk6, hk8⟩
  all_goals
    refine gstart mxd i94 rfl (by simp) ?_; simp (maxSteps := 2000000) only [↓ S2, S2, vIte, ↓reduceIte, Int.reduceNe, Nat.reduceEqDiff, reduceCtorEq, Nat.reduceLeDiff, Nat.reduceAdd, Nat.reduceLT]
    first | simp (maxSteps := 2000000) only [↓ S2, S2, vIte, ↓reduceIte, Int.reduceNe, Nat.reduceEqDiff, reduceCtorEq, Nat.reduceLeDiff, Nat.reduceAdd, Nat.reduceLT, XE, hk, Int.reduceEq, decide_false, decide_true, hl0, hl1, hl2, hl3] | simp (maxSteps := 2000000) only [↓ S2, S2, vIte, ↓reduceIte, Int.reduceNe, Nat.reduceEqDiff, reduceCtorEq, Nat.reduceLeDiff, Nat.reduceAdd, Nat.reduceLT, XE, hk1, hk3, hk4, hk5, hk6, hk8, Int.reduceEq, decide_false, decide_true, hl0, hl1, hl2, hl3]
    try simp only [Tryz.chN]
    clear hl0 hl1 hl2 hl3
    (repeat' (first | (with_reducible intro h) | (with_reducible refine And.intro (by omega) ?_) | (with_reducible refine exP (by omega) ?_) | (with_reducible apply And.intro)))
    all_goals
      congr 2
      rw [Bool.eq_iff_iff]
      simp [bareV, arity, Tryz.dec_i, *]
end Go.Proofs.YtkmedfejmndmjaaGreatDoor

namespace Go.Proofs.YtkmedfejmndmjaaGreatDoor
open Go.Gh
set_option maxRecDepth 20000
set_option linter.unusedSimpArgs false
set_option linter.unusedVariables false
set_option maxHeartbeats 20000000 in
theorem w62 (e : Exp) (hl : e.args.length ≤ 1048576) (ho : okE e) : Pure Tryz.prog 62 [Ex e] (· = B (nodeV e)) := by
  obtain ⟨hs, hm, _⟩ := okE_eq.1 ho
  have hk : e.kind = 1 ∨ e.kind = 2 ∨ e.kind = 3 ∨ e.kind = 4 ∨ e.kind = 5 ∨ e.kind = 6 ∨ e.kind = 7 ∨ e.kind = 8 ∨ (¬ (1 ≤ e.kind ∧ e.kind ≤ 8)) := by omega
  rcases hk with hk | hk | hk | hk | hk | hk | hk | hk | hk
  all_goals
    refine gstart mxd i62 rfl (by simp) ?_; simp (maxSteps := 2000000) only [↓ S2, S2, vIte, ↓reduceIte, Int.reduceNe, Nat.reduceEqDiff, reduceCtorEq, Nat.reduceLeDiff, Nat.reduceAdd, Nat.reduceLT]
    (repeat' (first | (with_reducible refine callS.eq (w93 _ _ _) ?_) | (with_reducible refine callS.eq (w94 e hl) ?_) | (with_reducible refine callS.eq (w90 _ _) ?_) | (with_reducible refine callS.eq (w95 _ hs) ?_) | (with_reducible refine callS.eq (w95 _ hm) ?_) | simp (maxSteps := 2000000) only [↓ S2, S2, vIte, ↓reduceIte, Int.reduceNe, Nat.reduceEqDiff, reduceCtorEq, Nat.reduceLeDiff, Nat.reduceAdd, Nat.reduceLT, XE, hk] | simp only [brGen] | simp +contextual (disch := omega) only [Z2] | (with_reducible intro h) | (with_reducible refine And.intro (by omega) ?_) | (with_reducible refine exP (by omega) ?_) | (with_reducible apply And.intro)))
    all_goals try (exfalso; omega)
    all_goals first
      | (simp_all [nodeV]; done)
      | (simp_all [nodeV]; intros; omega)
      | (congr 2; rw [Bool.eq_iff_iff]; simp [nodeV, hk, *]; done)
theorem w32 : ∀ e : Exp, okE e → wEx e ≤ 1048576 → Pure Tryz.prog 32 [Ex e] (· = B (allE nodeV e)) := by
  refine Exp.indA fun e ih ho hw => ?_
  obtain ⟨hl, ha⟩ := args_small hw
  obtain ⟨_, _, hoa⟩ := okE_eq.1 ho
  refine gstart mxd i32 rfl (by simp) ?_; simp (maxSteps := 2000000) only [↓ S2, S2, vIte, ↓reduceIte, Int.reduceNe, Nat.reduceEqDiff, reduceCtorEq, Nat.reduceLeDiff, Nat.reduceAdd, Nat.reduceLT]
  simp (maxSteps := 2000000) only [↓ S2, S2, vIte, ↓reduceIte, Int.reduceNe, Nat.reduceEqDiff, reduceCtorEq, Nat.reduceLeDiff, Nat.reduceAdd, Nat.reduceLT, XE]
  refine wloop mxd (ι := { i : Nat // i ≤ e.args.length ∧ ∀ a ∈ e.args.take i, allE nodeV a = true }) (fun i => [(1, .rop 7 (Ex e)), (3, I i.1)]) (fun _ => []) (fun i => e.args.length - i.1) ⟨0, by simp⟩ (by simp [E2]) rfl ?_
  rintro ⟨i, hi, hn⟩
  rcases Nat.lt_or_ge i e.args.length with hlt | hge
  · (repeat' (first | (with_reducible refine callS.eq (ih _ (List.getElem_mem hlt) (hoa _ (List.getElem_mem hlt)) (ha _ (List.getElem_mem hlt))) ?_) | simp (maxSteps := 2000000) only [↓ S2, S2, vIte, ↓reduceIte, Int.reduceNe, Nat.reduceEqDiff, reduceCtorEq, Nat.reduceLeDiff, Nat.reduceAdd, Nat.reduceLT, XE] | simp only [brGen] | simp +contextual (disch := omega) only [Z2] | (with_reducible intro h) | (with_reducible refine And.intro (by omega) ?_) | (with_reducible refine exP (by omega) ?_) | (with_reducible apply And.intro)))
    all_goals try (exfalso; omega)
    · exact nx ⟨i + 1, by omega, all_take hlt (by assumption) hn⟩ (by simp; omega) (by simp [E2]) rfl
    · rw [allE_no hlt (by assumption)]
  · have : i = e.args.length := by omega
    subst this
    rw [List.take_of_length_le (Nat.le_refl _)] at hn
    rw [allE_yes hn]
    (repeat' (first | (with_reducible refine callS.eq (w62 e hl ho) ?_) | simp (maxSteps := 2000000) only [↓ S2, S2, vIte, ↓reduceIte, Int.reduceNe, Nat.reduceEqDiff, reduceCtorEq, Nat.reduceLeDiff, Nat.reduceAdd, Nat.reduceLT, XE] | simp only [brGen] | simp +contextual (disch := omega) only [Z2] | (with_reducible intro h) | (with_reducible refine And.intro (by omega) ?_) | (with_reducible refine exP (by omega) ?_) | (with_reducible apply And.intro)))
theorem w12 (e : Exp) (ho : okE e) (hw : wEx e ≤ 1048576) : Pure Tryz.prog 12 [Ex e] (· = B (validE e)) := by
  have hc := cntE_le e
  have hd := dpE_le e
  refine gstart mxd i12 rfl (by simp) ?_; simp (maxSteps := 2000000) only [↓ S2, S2, vIte, ↓reduceIte, Int.reduceNe, Nat.reduceEqDiff, reduceCtorEq, Nat.reduceLeDiff, Nat.reduceAdd, Nat.reduceLT]
  (repeat' (first | (with_reducible refine callS.eq (w30 e hw _ (by omega) (by omega)) ?_) | (with_reducible refine callS.eq (w31 e hw) ?_) | (with_reducible refine callS.eq (w32 e ho hw) ?_) | simp (maxSteps := 2000000) only [↓ S2, S2, vIte, ↓reduceIte, Int.reduceNe, Nat.reduceEqDiff, reduceCtorEq, Nat.reduceLeDiff, Nat.reduceAdd, Nat.reduceLT, XE] | simp only [brGen] | simp +contextual (disch := omega) only [Z2] | (with_reducible intro h) | (with_reducible refine And.intro (by omega) ?_) | (with_reducible refine exP (by omega) ?_) | (with_reducible apply And.intro)))
  all_goals (simp only [validE])
  all_goals first
    | (rw [decide_eq_true (show cntE e ≤ 24 by omega), decide_eq_true (show dpE e ≤ 6 by omega)]; rfl)
    | (rw [decide_eq_false (show ¬ cntE e ≤ 24 by omega)]; rfl)
    | (rw [decide_eq_false (show ¬ dpE e ≤ 6 by omega), Bool.and_false]; rfl)
end Go.Proofs.YtkmedfejmndmjaaGreatDoor

namespace Go.Proofs.YtkmedfejmndmjaaGreatDoor
open Go.Gh
set_option maxRecDepth 20000
set_option linter.unusedSimpArgs false
set_option linter.unusedVariables false
theorem Tryz.dec_j {p : Prop} {i : Decidable p} : (@decide p i = true) = p := propext ⟨of_decide_eq_true, decide_eq_true⟩
set_option maxHeartbeats 20000000 in
theorem w52 (e : Exp) (hl : e.args.length ≤ 1048576) (ho : okE e) : Pure Tryz.prog 52 [Ex e] (· = B (nodeV e)) := by
  obtain ⟨hs, hm, _⟩ := okE_eq.1 ho
  refine Pure.bor ?_
  have hl1 : ((e.args.length : Int) = 1) = (e.args.length = 1) := propext (by omega)
  have hl2 : ((e.args.length : Int) = 2) = (e.args.length = 2) := propext (by omega)
  have hl3 : ((e.args.length : Int) = 3) = (e.args.length = 3) := propext (by omega)
  have hk : e.kind = 1 ∨ e.kind = 2 ∨ e.kind = 3 ∨ e.kind = 4 ∨ e.kind = 5 ∨ e.kind = 6 ∨ e.kind = 7 ∨ e.kind = 8 ∨ (¬ e.kind = 1 ∧ ¬ e.kind = 2 ∧ ¬ e.kind = 3 ∧ ¬ e.kind = 4 ∧ ¬ e.kind = 5 ∧ ¬ e.kind = 6 ∧ ¬ e.kind = 7 ∧ ¬ e.kind = 8) := by omega
  rcases hk with hk | hk | hk | hk | hk | hk | hk | hk | hk
  all_goals
    refine gstart mxd i52 rfl (by simp) ?_; simp (maxSteps := 2000000) only [↓ S2, S2, vIte, ↓reduceIte, Int.reduceNe, Nat.reduceEqDiff, reduceCtorEq, Nat.reduceLeDiff, Nat.reduceAdd, Nat.reduceLT]
    (repeat' (first | (with_reducible refine callS.eq (w84 _ _ _) ?_) | (with_reducible refine callS.eq (w82 _ _) ?_) | (with_reducible refine callS.eq (w83 _ hs) ?_) | (with_reducible refine callS.eq (w83 _ hm) ?_) | (with_reducible refine callS.eq (w36 e _ _ _ _ _ _ _) ?_) | simp (maxSteps := 2000000) only [↓ S2, S2, vIte, ↓reduceIte, Int.reduceNe, Nat.reduceEqDiff, reduceCtorEq, Nat.reduceLeDiff, Nat.reduceAdd, Nat.reduceLT, XE, hk] | simp only [brGen] | simp +contextual (disch := omega) only [Z2] | (with_reducible intro h) | (with_reducible refine And.intro (by omega) ?_) | (with_reducible refine exP (by omega) ?_) | (with_reducible apply And.intro)))
    all_goals try (exfalso; omega)
    all_goals refine .of_eq ?_
    all_goals first
      | (simp_all [nodeV, bareV, arity, noS_eq]; done)
      | (simp_all [nodeV, bareV, arity, noS_eq]; intros; omega)
      | (have hr := okV_rng (show okV e.n e.type = true by assumption)
         congr 2
         rw [Bool.eq_iff_iff]
         try simp only [Bool.and_eq_true, Tryz.dec_j]
         try simp only [noS_eq]
         simp [nodeV, bareV, arity, hk]
         try (constructor <;> intro hh <;> (try simp_all) <;> (try omega)))
      | (congr 2
         rw [Bool.eq_iff_iff]
         try simp only [Bool.and_eq_true, Tryz.dec_j]
         try simp only [noS_eq]
         simp [nodeV, bareV, arity, hk]
         try (constructor <;> intro hh <;> (try simp_all) <;> (try omega)))
end Go.Proofs.YtkmedfejmndmjaaGreatDoor

namespace Go.Proofs.YtkmedfejmndmjaaGreatDoor
open Go.Gh
set_option maxRecDepth 20000
set_option linter.unusedSimpArgs false
set_option linter.unusedVariables false
theorem w27 (e : Exp) (ho : okE e) (hw : wEx e ≤ 1048576) : Pure Tryz.prog 27 [Ex e] (· = B (validE e)) := by
  have hc := cntE_le e
  have hd := dpE_le e
  have hev := w51 52 [] nodeV (fun e => okE e ∧ wEx e ≤ 1048576) (fun e h a ha => ⟨(okE_eq.1 h.1).2.2 a ha, (args_small h.2).2 a ha⟩) (fun x h => w52 x (args_small h.2).1 h.1) e ⟨ho, hw⟩
  refine gstart mxd i27 rfl (by simp) ?_; simp (maxSteps := 2000000) only [↓ S2, S2, vIte, ↓reduceIte, Int.reduceNe, Nat.reduceEqDiff, reduceCtorEq, Nat.reduceLeDiff, Nat.reduceAdd, Nat.reduceLT]
  (repeat' (first | (with_reducible refine callS.eq (w49 e hw) ?_) | (with_reducible refine callS.eq (w50 e hw) ?_) | (with_reducible refine callS.eq (hev) ?_) | simp (maxSteps := 2000000) only [↓ S2, S2, vIte, ↓reduceIte, Int.reduceNe, Nat.reduceEqDiff, reduceCtorEq, Nat.reduceLeDiff, Nat.reduceAdd, Nat.reduceLT, XE] | simp only [brGen] | simp +contextual (disch := omega) only [Z2] | (with_reducible intro h) | (with_reducible refine And.intro (by omega) ?_) | (with_reducible refine exP (by omega) ?_) | (with_reducible apply And.intro)))
  all_goals (simp only [validE])
  all_goals first
    | (rw [decide_eq_true (show cntE e ≤ 24 by omega), decide_eq_true (show dpE e ≤ 6 by omega)]; rfl)
    | (rw [decide_eq_false (show ¬ cntE e ≤ 24 by omega)]; rfl)
    | (rw [decide_eq_false (show ¬ dpE e ≤ 6 by omega), Bool.and_false]; rfl)
end Go.Proofs.YtkmedfejmndmjaaGreatDoor

namespace Go.Proofs.YtkmedfejmndmjaaGreatDoor
open Go.Gh
set_option maxRecDepth 20000
set_option linter.unusedSimpArgs false
set_option linter.unusedVariables false
theorem w76 (k : Int) (hk : k < 9223372036854775807) : Pure Tryz.prog 76 [I k] (· = T (mtext k)) := by
  refine gstart mxd i76 rfl (by simp) ?_; simp (maxSteps := 2000000) only [↓ S2, S2, vIte, ↓reduceIte, Int.reduceNe, Nat.reduceEqDiff, reduceCtorEq, Nat.reduceLeDiff, Nat.reduceAdd, Nat.reduceLT]
  ((try with_reducible refine mkQI ?_); (repeat ((first | (with_reducible refine mkQU ?_) | simp only [brGen]); try simp (maxSteps := 2000000) only [↓ S2, S2, vIte, ↓reduceIte, Int.reduceNe, Nat.reduceEqDiff, reduceCtorEq, Nat.reduceLeDiff, Nat.reduceAdd, Nat.reduceLT])); (try simp +contextual (disch := omega) only [Z2]); (repeat' (first | (with_reducible intro h) | (with_reducible refine And.intro (by omega) ?_) | (with_reducible refine exP (by omega) ?_) | (with_reducible apply And.intro))))
  · simp [mtext, h]
  have hR : ∃ R, dig k.toNat k [] = R := ⟨_, rfl⟩
  obtain ⟨R, hR⟩ := hR
  refine wloop mxd (ι := { x : Nat × Int × List UInt8 // dig x.1 x.2.1 x.2.2 = R ∧ x.2.1 ≤ x.1 ∧ 0 ≤ x.2.1 ∧ x.2.1 + x.2.2.length ≤ k }) (fun x => [(0, I x.1.2.1), (3, T ⟨x.1.2.2.toArray⟩)]) (fun _ => []) (fun x => x.1.1) ⟨(k.toNat, k, []), hR, by show k ≤ (k.toNat : Int); omega, by show 0 ≤ k; omega, by simp⟩ (by simp [E2]) rfl ?_
  rintro ⟨⟨f, j, acc⟩, h1, h2, h3, h4⟩
  dsimp only at h1 h2 h3 h4
  have e : j.tdiv 10 = j / 10 := Int.tdiv_eq_ediv_of_nonneg h3
  ((try with_reducible refine mkQI ?_); (repeat ((first | (with_reducible refine mkQU ?_) | simp only [brGen]); try simp (maxSteps := 2000000) only [↓ S2, S2, vIte, ↓reduceIte, Int.reduceNe, Nat.reduceEqDiff, reduceCtorEq, Nat.reduceLeDiff, Nat.reduceAdd, Nat.reduceLT])); (try simp +contextual (disch := omega) only [Z2]); (repeat' (first | (with_reducible intro h) | (with_reducible refine And.intro (by omega) ?_) | (with_reducible refine exP (by omega) ?_) | (with_reducible apply And.intro))))
  · show ([_] : List UInt8).length + acc.toArray.toList.length ≤ _
    simp; omega
  · rename_i hj r
    obtain ⟨f', rfl⟩ : ∃ f', f = f' + 1 := ⟨f - 1, by omega⟩
    rw [dig, if_pos hj] at h1
    refine nxF ⟨(f', j.tdiv 10, dgt j :: acc), h1, ?_, ?_, ?_⟩ (by simp) (FE.drop hget_new) ?_ (by rw [hdel_new])
    · show j.tdiv 10 ≤ _; omega
    · show 0 ≤ j.tdiv 10; omega
    · show j.tdiv 10 + ((dgt j :: acc).length : Int) ≤ k; simp; omega
    · simp [E2, dgt, mkS]
      rfl
  · show ([_] : List UInt8).length + acc.toArray.toList.length ≤ _
    simp; omega
  · rw [dig_end _ _ h] at h1
    rw [mtext, if_neg (by omega), hR, h1]
    simp [mkS, chars]
end Go.Proofs.YtkmedfejmndmjaaGreatDoor

namespace Go.Proofs.YtkmedfejmndmjaaGreatDoor
open Go.Gh
set_option maxRecDepth 20000
set_option linter.unusedSimpArgs false
set_option linter.unusedVariables false
theorem wa41 : ∀ (e : Exp) (r n : Nat) (k : Int) (H : GH) (_ : hget H r = some (7, e.args.map ExO)) (_ : e.args.length = n) (_ : 0 ≤ k) (_ : k + smw ctE e.args < 9223372036854775807),
    GCalls Tryz.prog 41 [.own r 7 0 n, I k] H (fun g H' => g = I (k + smw ctE e.args) ∧ H' = hset H r ((smk ctE mkE e.args k).map ExO)) := by
  refine Exp.indA fun e ih => ?_
  intro r n k H hr hn hk hb
  generalize e.args = es at *
  refine gstart mxd i41 rfl (by simp) ?_; simp (maxSteps := 2000000) only [↓ S2, S2, vIte, ↓reduceIte, Int.reduceNe, Nat.reduceEqDiff, reduceCtorEq, Nat.reduceLeDiff, Nat.reduceAdd, Nat.reduceLT]
  refine wloopF mxd (ι := { i : Nat // i ≤ n }) (fun i => [(0, .own r 7 0 n), (1, I (k + smw ctE (es.take i.1))), (5, I i.1)]) (fun i => hset H r ((smk ctE mkE (es.take i.1) k ++ es.drop i.1).map ExO)) (fun i => n - i.1) ⟨0, by omega⟩ FE.refl (by simp [E2, smw]) (by simp [smk]; rw [hset_self hr]) ?_
  rintro ⟨i, hi⟩ hnd
  dsimp only at hnd ⊢
  rcases Nat.lt_or_ge i n with h | h
  · have ht : i < es.length := by omega
    have hml : (smk ctE mkE (es.take i) k ++ es.drop i).length = es.length := smid_len ctE mkE
    have hmid : i < (smk ctE mkE (es.take i) k ++ es.drop i).length := by rw [hml]; exact ht
    have e0 := ctE_eq es[i]
    have e1 : smw ctE (es.take (i + 1)) = smw ctE (es.take i) + (ctE es[i]) := smw_step ctE ht
    have e2 := smw_take ctE es (i + 1)
    have e3 := smw_len ctE (fun x => by rw [ctE_eq]; omega) es
    refine GW.opn (r := r) (i := i) (j := 6) (hget_set hr) (by rw [List.getElem?_map, List.getElem?_eq_getElem hmid, smid_get _ _ ht]; exact congrArg some (ExO_eq es[i])) rfl fun r1 hn1 => ?_
    have hne : r1 ≠ r := ne_of_new hn1 (hget_set hr)
    rw [hset_set]
    refine gwp_ok mxd ?_
    ((try with_reducible refine mkQI ?_); (repeat ((first | (with_reducible refine mkQU ?_) | simp only [brGen]); try simp (maxSteps := 2000000) only [↓ S2, S2, vIte, ↓reduceIte, Int.reduceNe, Nat.reduceEqDiff, reduceCtorEq, Nat.reduceLeDiff, Nat.reduceAdd, Nat.reduceLT, hget_old hne, hset_old hne, hget_set hr, hset_set, List.getElem_set_self, List.set_set, List.length_set])); (try simp +contextual (disch := omega) only [Z2, hget_old hne, hset_old hne, hget_set hr, hset_set, List.getElem_set_self, List.set_set, List.length_set]); (repeat' (first | (with_reducible intro h) | (with_reducible refine And.intro (by omega) ?_) | (with_reducible refine exP (by omega) ?_) | (with_reducible apply And.intro))))
    all_goals try (exfalso; omega)
    refine callS.eq (w76 _ (by omega)) ?_
    ((try with_reducible refine mkQI ?_); (repeat ((first | (with_reducible refine mkQU ?_) | simp only [brGen]); try simp (maxSteps := 2000000) only [↓ S2, S2, vIte, ↓reduceIte, Int.reduceNe, Nat.reduceEqDiff, reduceCtorEq, Nat.reduceLeDiff, Nat.reduceAdd, Nat.reduceLT, hget_old hne, hset_old hne, hget_set hr, hset_set, List.getElem_set_self, List.set_set, List.length_set])); (try simp +contextual (disch := omega) only [Z2, hget_old hne, hset_old hne, hget_set hr, hset_set, List.getElem_set_self, List.set_set, List.length_set]); (repeat' (first | (with_reducible intro h) | (with_reducible refine And.intro (by omega) ?_) | (with_reducible refine exP (by omega) ?_) | (with_reducible apply And.intro))))
    all_goals try (exfalso; omega)
    refine callS.eq (w76 _ (by omega)) ?_
    ((try with_reducible refine mkQI ?_); (repeat ((first | (with_reducible refine mkQU ?_) | simp only [brGen]); try simp (maxSteps := 2000000) only [↓ S2, S2, vIte, ↓reduceIte, Int.reduceNe, Nat.reduceEqDiff, reduceCtorEq, Nat.reduceLeDiff, Nat.reduceAdd, Nat.reduceLT, hget_old hne, hset_old hne, hget_set hr, hset_set, List.getElem_set_self, List.set_set, List.length_set])); (try simp +contextual (disch := omega) only [Z2, hget_old hne, hset_old hne, hget_set hr, hset_set, List.getElem_set_self, List.set_set, List.length_set]); (repeat' (first | (with_reducible intro h) | (with_reducible refine And.intro (by omega) ?_) | (with_reducible refine exP (by omega) ?_) | (with_reducible apply And.intro))))
    all_goals try (exfalso; omega)
    refine callS.of (ih es[i] (List.getElem_mem _) r1 _ _ _ hget_new (by simp) (by omega) (by omega)) ?_
    rintro g H' ⟨rfl, rfl⟩ -
    rw [hset_new]
    ((try with_reducible refine mkQI ?_); (repeat ((first | (with_reducible refine mkQU ?_) | simp only [brGen]); try simp (maxSteps := 2000000) only [↓ S2, S2, vIte, ↓reduceIte, Int.reduceNe, Nat.reduceEqDiff, reduceCtorEq, Nat.reduceLeDiff, Nat.reduceAdd, Nat.reduceLT, hget_old hne, hset_old hne, hget_set hr, hset_set, List.getElem_set_self, List.set_set, List.length_set])); (try simp +contextual (disch := omega) only [Z2, hget_old hne, hset_old hne, hget_set hr, hset_set, List.getElem_set_self, List.set_set, List.length_set]); (repeat' (first | (with_reducible intro h) | (with_reducible refine And.intro (by omega) ?_) | (with_reducible refine exP (by omega) ?_) | (with_reducible apply And.intro))))
    all_goals try (exfalso; omega)
    refine nxF ⟨i + 1, by omega⟩ (by simp; omega) (FE.close3 hr hne (j := 6) (by simpa using hmid) rfl (by simp [smk_len])) (by simp [E2]; omega) ?_
    rw [← smid_set ctE mkE ht, List.map_set, mkE_eq, ExO_eq]
    rfl
  · have : i = n := by omega
    subst this
    refine gwp_ok mxd ?_
    ((try with_reducible refine mkQI ?_); (repeat ((first | (with_reducible refine mkQU ?_) | simp only [brGen]); try simp (maxSteps := 2000000) only [↓ S2, S2, vIte, ↓reduceIte, Int.reduceNe, Nat.reduceEqDiff, reduceCtorEq, Nat.reduceLeDiff, Nat.reduceAdd, Nat.reduceLT])); (try simp +contextual (disch := omega) only [Z2]); (repeat' (first | (with_reducible intro h) | (with_reducible refine And.intro (by omega) ?_) | (with_reducible refine exP (by omega) ?_) | (with_reducible apply And.intro))))
    · rw [List.take_of_length_le (by omega)]
    · rw [List.take_of_length_le (by omega), List.drop_of_length_le (by omega), List.append_nil]
theorem w41 (r n : Nat) (k : Int) (es : List Exp) (H : GH) (hr : hget H r = some (7, es.map ExO)) (hn : es.length = n) (hk : 0 ≤ k) (hb : k + smw ctE es < 9223372036854775807) :
    GCalls Tryz.prog 41 [.own r 7 0 n, I k] H (fun g H' => g = I (k + smw ctE es) ∧ H' = hset H r ((smk ctE mkE es k).map ExO)) :=
  wa41 (.mk 0 0 0 0 noS noS es) r n k H hr hn hk hb
end Go.Proofs.YtkmedfejmndmjaaGreatDoor

namespace Go.Proofs.YtkmedfejmndmjaaGreatDoor
open Go.Gh
set_option maxRecDepth 20000
set_option linter.unusedSimpArgs false
set_option linter.unusedVariables false
theorem w18 (e : Exp) (q n : Nat) (k : Int) (H : GH) (hr : hget H q = some (7, e.args.map ExO)) (hn : e.args.length = n) (hk : 0 ≤ k) (hb : k + smw ctE e.args < 9223372036854775807) :
    GCalls Tryz.prog 18 [.agg [I e.kind, I e.n, I e.pos, I e.type, T e.sym, T e.name, .own q 7 0 n], I k] H (fun g H' => g = I (k + smw ctE e.args) ∧ H' = hset H q ((smk ctE mkE e.args k).map ExO)) := by
  refine gstart mxd i18 rfl (by simp) ?_; simp (maxSteps := 2000000) only [↓ S2, S2, vIte, ↓reduceIte, Int.reduceNe, Nat.reduceEqDiff, reduceCtorEq, Nat.reduceLeDiff, Nat.reduceAdd, Nat.reduceLT]
  ((try with_reducible refine mkQI ?_); (repeat ((first | (with_reducible refine mkQU ?_) | simp only [brGen]); try simp (maxSteps := 4000000) +contextual only [↓ S2, S2, vIte, ↓reduceIte, Int.reduceNe, Nat.reduceEqDiff, reduceCtorEq, Nat.reduceLeDiff, Nat.reduceAdd, Nat.reduceLT, hget_c, hset_c, hdel_c, neN, neA_cons, neA_nil, ])); (try simp +contextual (disch := omega) only [Z2, ]); (repeat' (first | (with_reducible intro h) | (with_reducible refine And.intro (by omega) ?_) | (with_reducible refine exP (by omega) ?_) | (with_reducible apply And.intro))))
  refine callS.of (w41 q n k e.args _ hr hn hk hb) ?_
  rintro g H' ⟨rfl, rfl⟩ -
  ((try with_reducible refine mkQI ?_); (repeat ((first | (with_reducible refine mkQU ?_) | simp only [brGen]); try simp (maxSteps := 4000000) +contextual only [↓ S2, S2, vIte, ↓reduceIte, Int.reduceNe, Nat.reduceEqDiff, reduceCtorEq, Nat.reduceLeDiff, Nat.reduceAdd, Nat.reduceLT, hget_c, hset_c, hdel_c, neN, neA_cons, neA_nil, ])); (try simp +contextual (disch := omega) only [Z2, ]); (repeat' (first | (with_reducible intro h) | (with_reducible refine And.intro (by omega) ?_) | (with_reducible refine exP (by omega) ?_) | (with_reducible apply And.intro))))
theorem wa42 : ∀ (e : Exp) (k : Int) (_ : 0 ≤ k) (_ : k + smw ctE e.args < 9223372036854775807),
    Pure Tryz.prog 42 [ExS (smk ctE mkE e.args k), I k] (· = I (k + smw ctE e.args)) := by
  refine Exp.indA fun e ih => ?_
  intro k hk hb
  generalize e.args = l at *
  have e4 := smw_len ctE (fun x => by rw [ctE_eq]; omega) l
  refine gstart mxd i42 rfl (by simp) ?_; simp (maxSteps := 2000000) only [↓ S2, S2, vIte, ↓reduceIte, Int.reduceNe, Nat.reduceEqDiff, reduceCtorEq, Nat.reduceLeDiff, Nat.reduceAdd, Nat.reduceLT]
  refine wloop mxd (ι := { i : Nat // i ≤ l.length }) (fun i => [(0, ExS (smk ctE mkE l k)), (1, I (k + smw ctE (l.take i.1))), (5, I i.1)]) (fun i => []) (fun i => l.length - i.1) ⟨0, by omega⟩ (by simp [E2, smw]) rfl ?_
  rintro ⟨i, hi⟩
  rcases Nat.lt_or_ge i l.length with h | h
  · have e0 := ctE_eq l[i]
    have e1 : smw ctE (l.take (i + 1)) = smw ctE (l.take i) + ctE l[i] := smw_step ctE h
    have e2 := smw_take ctE l (i + 1)
    have hl : i < (smk ctE mkE l k).length := by rw [smk_len]; exact h
    have e6 : Ex (smk ctE mkE l k)[i] = Ex (mkE l[i] (k + smw ctE (l.take i))) := congrArg Ex (smk_getE ctE mkE h hl)
    rw [mkE_eq, mkX] at e6
    ((try with_reducible refine mkQI ?_); (repeat ((first | (with_reducible refine mkQU ?_) | simp only [brGen]); try simp (maxSteps := 2000000) only [↓ S2, S2, vIte, ↓reduceIte, Int.reduceNe, Nat.reduceEqDiff, reduceCtorEq, Nat.reduceLeDiff, Nat.reduceAdd, Nat.reduceLT, smk_len, e6])); (try simp +contextual (disch := omega) only [Z2, smk_len, e6]); (repeat' (first | (with_reducible intro h) | (with_reducible refine And.intro (by omega) ?_) | (with_reducible refine exP (by omega) ?_) | (with_reducible apply And.intro))))
    all_goals try (exfalso; omega)
    iterate 2
      (refine callS.eq (w76 _ (by omega)) ?_
       ((try with_reducible refine mkQI ?_); (repeat ((first | (with_reducible refine mkQU ?_) | simp only [brGen]); try simp (maxSteps := 2000000) only [↓ S2, S2, vIte, ↓reduceIte, Int.reduceNe, Nat.reduceEqDiff, reduceCtorEq, Nat.reduceLeDiff, Nat.reduceAdd, Nat.reduceLT, smk_len, e6])); (try simp +contextual (disch := omega) only [Z2, smk_len, e6]); (repeat' (first | (with_reducible intro h) | (with_reducible refine And.intro (by omega) ?_) | (with_reducible refine exP (by omega) ?_) | (with_reducible apply And.intro))))
       all_goals try (exfalso; omega))
    refine callS.eq (ih l[i] (List.getElem_mem _) _ (by omega) (by omega)) ?_
    ((try with_reducible refine mkQI ?_); (repeat ((first | (with_reducible refine mkQU ?_) | simp only [brGen]); try simp (maxSteps := 2000000) only [↓ S2, S2, vIte, ↓reduceIte, Int.reduceNe, Nat.reduceEqDiff, reduceCtorEq, Nat.reduceLeDiff, Nat.reduceAdd, Nat.reduceLT, smk_len, e6])); (try simp +contextual (disch := omega) only [Z2, smk_len, e6]); (repeat' (first | (with_reducible intro h) | (with_reducible refine And.intro (by omega) ?_) | (with_reducible refine exP (by omega) ?_) | (with_reducible apply And.intro))))
    all_goals try (exfalso; omega)
    exact nx ⟨i + 1, by omega⟩ (by simp; omega) (by simp [E2]; omega) rfl
  · ((try with_reducible refine mkQI ?_); (repeat ((first | (with_reducible refine mkQU ?_) | simp only [brGen]); try simp (maxSteps := 2000000) only [↓ S2, S2, vIte, ↓reduceIte, Int.reduceNe, Nat.reduceEqDiff, reduceCtorEq, Nat.reduceLeDiff, Nat.reduceAdd, Nat.reduceLT, smk_len])); (try simp +contextual (disch := omega) only [Z2, smk_len]); (repeat' (first | (with_reducible intro h) | (with_reducible refine And.intro (by omega) ?_) | (with_reducible refine exP (by omega) ?_) | (with_reducible apply And.intro))))
    rw [List.take_of_length_le (by omega)]
theorem w19 (e : Exp) (l : List Exp) (k : Int) (he : e.args = smk ctE mkE l k) (hk : 0 ≤ k) (hb : k + smw ctE l < 9223372036854775807) :
    Pure Tryz.prog 19 [Ex e, I k] (· = I (k + smw ctE l)) := by
  have h := wa42 (.mk 0 0 0 0 noS noS l) k hk hb
  simp only [Exp.args] at h
  refine gstart mxd i19 rfl (by simp) ?_; simp (maxSteps := 2000000) only [↓ S2, S2, vIte, ↓reduceIte, Int.reduceNe, Nat.reduceEqDiff, reduceCtorEq, Nat.reduceLeDiff, Nat.reduceAdd, Nat.reduceLT]
  ((try with_reducible refine mkQI ?_); (repeat ((first | (with_reducible refine mkQU ?_) | simp only [brGen]); try simp (maxSteps := 4000000) +contextual only [↓ S2, S2, vIte, ↓reduceIte, Int.reduceNe, Nat.reduceEqDiff, reduceCtorEq, Nat.reduceLeDiff, Nat.reduceAdd, Nat.reduceLT, hget_c, hset_c, hdel_c, neN, neA_cons, neA_nil, XE, he])); (try simp +contextual (disch := omega) only [Z2, XE, he]); (repeat' (first | (with_reducible intro h) | (with_reducible refine And.intro (by omega) ?_) | (with_reducible refine exP (by omega) ?_) | (with_reducible apply And.intro))))
  refine callS.eq h ?_
  have hn : ¬ (k + (smw ctE l : Int) < 0) := by omega
  ((try with_reducible refine mkQI ?_); (repeat ((first | (with_reducible refine mkQU ?_) | simp only [brGen]); try simp (maxSteps := 4000000) +contextual only [↓ S2, S2, vIte, ↓reduceIte, Int.reduceNe, Nat.reduceEqDiff, reduceCtorEq, Nat.reduceLeDiff, Nat.reduceAdd, Nat.reduceLT, hget_c, hset_c, hdel_c, neN, neA_cons, neA_nil, hn])); (try simp +contextual (disch := omega) only [Z2, hn]); (repeat' (first | (with_reducible intro h) | (with_reducible refine And.intro (by omega) ?_) | (with_reducible refine exP (by omega) ?_) | (with_reducible apply And.intro))))
end Go.Proofs.YtkmedfejmndmjaaGreatDoor

