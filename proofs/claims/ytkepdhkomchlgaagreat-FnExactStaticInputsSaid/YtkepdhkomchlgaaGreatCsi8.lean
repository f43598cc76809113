/- The law FnExactStaticInputs returns true whatever the input, and the input reads behind the call as before. No condition. -/
import Derived.Test.YtkepdhkomchlgaaGreatCsi7
namespace Go.Proofs.YtkepdhkomchlgaaGreat
open Go.Gh
set_option maxRecDepth 20000
set_option linter.unusedSimpArgs false
set_option linter.unusedVariables false
theorem w19 (xs ys : List (Int × ByteArray)) : Pure Tryz.prog 19 [InsS xs, InsS ys] (· = B (decide (xs = ys))) :=
  eqS mxd i19 (fun _ => rfl) (fun _ => rfl) xs ys fun a _ b _ => w59 a b
theorem w25 (k : Int) (l : List (Int × ByteArray)) (hk : 0 ≤ k) (hb : k + smw wI l < 9223372036854775807) :
    Pure Tryz.prog 25 [InsS (smk wI mkI l k), I k] (· = I (k + smw wI l)) := by
  have e4 := smw_wI l
  refine gstart mxd i25 rfl (by simp) ?_; simp (maxSteps := 2000000) only [↓ S2, S2, vIte, ↓reduceIte, Int.reduceNe, Nat.reduceEqDiff, reduceCtorEq, Nat.reduceLeDiff, Nat.reduceAdd, Nat.reduceLT]
  refine wloop mxd (ι := { i : Nat // i ≤ l.length }) (fun i => [(0, InsS (smk wI mkI l k)), (1, I (k + smw wI (l.take i.1))), (5, I i.1)]) (fun i => []) (fun i => l.length - i.1) ⟨0, by omega⟩ (by simp [E2, smw]) rfl ?_
  rintro ⟨i, hi⟩
  rcases Nat.lt_or_ge i l.length with h | h
  · have e1 : smw wI (l.take (i + 1)) = smw wI (l.take i) + 2 := smw_step wI h
    have e2 := smw_take wI l (i + 1)
    have hl : i < (smk wI mkI l k).length := by rw [smk_len]; exact h
    have e6 : (smk wI mkI l k)[i] = mkI l[i] (k + smw wI (l.take i)) := smk_getE wI mkI h hl
    ((try simp (maxSteps := 2000000) only [↓ S2, S2, vIte, ↓reduceIte, Int.reduceNe, Nat.reduceEqDiff, reduceCtorEq, Nat.reduceLeDiff, Nat.reduceAdd, Nat.reduceLT, smk_len, e6, mkI]); (repeat (simp only [brGen]; try simp (maxSteps := 2000000) only [↓ S2, S2, vIte, ↓reduceIte, Int.reduceNe, Nat.reduceEqDiff, reduceCtorEq, Nat.reduceLeDiff, Nat.reduceAdd, Nat.reduceLT, smk_len, e6, mkI])); (try simp +contextual (disch := omega) only [Z2]); (repeat' (first | (with_reducible intro h) | (with_reducible refine And.intro (by omega) ?_) | (with_reducible refine exP (by omega) ?_) | (with_reducible apply And.intro))))
    all_goals try (exfalso; omega)
    refine callS.eq (w66 _ (by omega)) ?_
    ((try simp (maxSteps := 2000000) only [↓ S2, S2, vIte, ↓reduceIte, Int.reduceNe, Nat.reduceEqDiff, reduceCtorEq, Nat.reduceLeDiff, Nat.reduceAdd, Nat.reduceLT, smk_len, e6, mkI]); (repeat (simp only [brGen]; try simp (maxSteps := 2000000) only [↓ S2, S2, vIte, ↓reduceIte, Int.reduceNe, Nat.reduceEqDiff, reduceCtorEq, Nat.reduceLeDiff, Nat.reduceAdd, Nat.reduceLT, smk_len, e6, mkI])); (try simp +contextual (disch := omega) only [Z2]); (repeat' (first | (with_reducible intro h) | (with_reducible refine And.intro (by omega) ?_) | (with_reducible refine exP (by omega) ?_) | (with_reducible apply And.intro))))
    all_goals try (exfalso; omega)
    exact nx ⟨i + 1, by omega⟩ (by simp; omega) (by simp [E2]; omega) rfl
  · ((try simp (maxSteps := 2000000) only [↓ S2, S2, vIte, ↓reduceIte, Int.reduceNe, Nat.reduceEqDiff, reduceCtorEq, Nat.reduceLeDiff, Nat.reduceAdd, Nat.reduceLT, smk_len]); (repeat (simp only [brGen]; try simp (maxSteps := 2000000) only [↓ S2, S2, vIte, ↓reduceIte, Int.reduceNe, Nat.reduceEqDiff, reduceCtorEq, Nat.reduceLeDiff, Nat.reduceAdd, Nat.reduceLT, smk_len])); (try simp +contextual (disch := omega) only [Z2]); (repeat' (first | (with_reducible intro h) | (with_reducible refine And.intro (by omega) ?_) | (with_reducible refine exP (by omega) ?_) | (with_reducible apply And.intro))))
    rw [List.take_of_length_le (by omega)]
end Go.Proofs.YtkepdhkomchlgaaGreat

