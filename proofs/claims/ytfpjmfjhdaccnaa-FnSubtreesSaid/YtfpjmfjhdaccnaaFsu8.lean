/- The law FnSubtrees returns true whatever the input, and the input reads behind the call as before. No condition. -/
import Derived.Test.YtfpjmfjhdaccnaaFsu1
set_option linter.unusedSimpArgs false
set_option linter.unusedVariables false
set_option maxHeartbeats 40000000
namespace Go.Proofs.Ytfpjmfjhdaccnaa
open Go.Gh
open Nat (reduceEqDiff reduceLeDiff reduceAdd reduceLT)
open Int (reduceNe)
set_option maxRecDepth 20000
set_option linter.unusedSimpArgs false
set_option linter.unusedVariables false
theorem o57 (bs : List UInt8) (hb : bs.length ≤ 1048576) (H : GH) : Gc 57 [Bs bs] H (fun g H' => ∃ rc, g = .ptr rc 3 0 0 ∧ H' = (rc, 3, [.cur]) :: H) := by
 refine GCalls.fr (R := fun g H' => ∃ rc e, isC e ∧ g = .ptr rc 3 0 0 ∧ H' = (rc, 3, [e]) :: H) ?_ (fun g H' ⟨rc, e, h1, h2, h3⟩ => by subst h3; exact ⟨g, _, FR.uncur h1, rc, h2, rfl⟩)
 refine gstart mxd i57 rfl (by simp) ?_; simp (maxSteps := 9^7) only [↓ S2, S2, vIte, ↓reduceIte, reduceNe, reduceEqDiff, reduceCtorEq, reduceLeDiff, reduceAdd, reduceLT]
 ((try refine qI ?_); (repeat ((first | with_reducible refine qU ?_ | simp only [brGen]); try simp (maxSteps := 9^7) +contextual only [↓ S2, S2, ↓reduceIte, reduceNe, reduceEqDiff, reduceCtorEq, reduceLeDiff, reduceAdd, reduceLT, VQ, ])); (try simp +contextual (disch := omega) only [Z2, ]); (with_reducible repeat' (first | intro h | refine And.intro (by omega) ?_ | refine exP (by omega) ?_ | apply And.intro)))
 refine wloop mxd (ι := { x : Nat × Int // x.1 ≤ bs.length }) (fun x => [(0, Bs bs), (3, I x.1.2), (4, I x.1.1)]) (fun _ => H) (fun x => bs.length - x.1.1) ⟨(0, 26583 + bs.length), by simp⟩ (by simp [E2]) rfl ?_
 rintro ⟨⟨i, h⟩, hi⟩
 dsimp only at hi ⊢
 ((try refine qI ?_); (repeat ((first | with_reducible refine qU ?_ | simp only [brGen]); try simp (maxSteps := 9^7) +contextual only [↓ S2, S2, ↓reduceIte, reduceNe, reduceEqDiff, reduceCtorEq, reduceLeDiff, reduceAdd, reduceLT, VQ, ])); (try simp +contextual (disch := omega) only [Z2, ]); (with_reducible repeat' (first | intro h | refine And.intro (by omega) ?_ | refine exP (by omega) ?_ | apply And.intro)))
 all_goals try exact oF
 ·exact nx ⟨(i + 1, _), by dsimp only; omega⟩ (by simp <;> omega) (by simp [E2]; rfl) rfl
 all_goals exact ⟨_, _, ⟨bs, 0, _, rfl, by omega, by omega, by omega⟩, rfl, rfl⟩
theorem w93 : Dv Try.prog 93 [] (fun g => ∃ k : Nat, k < 256 ∧ g = I k) := by
 refine fun rc H => GCalls.open fun e he => ?_
 refine GCalls.fr (R := fun g H' => (∃ k : Nat, k < 256 ∧ g = I k) ∧ ∃ e, isC e ∧ H' = (rc, 3, [e]) :: H) ?_ (fun g H' ⟨h1, e', h2, h3⟩ => by subst h3; exact ⟨g, _, FR.uncur h2, [], ⟨h1, rfl⟩, rfl⟩)
 obtain ⟨bs, i, h, rfl, h0, h1, h2⟩ := he
 obtain ⟨i, rfl⟩ := Int.eq_ofNat_of_zero_le h0
 refine gstart mxd i93 rfl (by simp) ?_; simp (maxSteps := 9^7) only [↓ S2, S2, vIte, ↓reduceIte, reduceNe, reduceEqDiff, reduceCtorEq, reduceLeDiff, reduceAdd, reduceLT]
 ((try refine qI ?_); (repeat ((first | with_reducible refine qU ?_ | simp only [brGen]); try simp (maxSteps := 9^7) +contextual only [↓ S2, S2, ↓reduceIte, reduceNe, reduceEqDiff, reduceCtorEq, reduceLeDiff, reduceAdd, reduceLT, VQ, ])); (try simp +contextual (disch := omega) only [Z2, ]); (with_reducible repeat' (first | intro h | refine And.intro (by omega) ?_ | refine exP (by omega) ?_ | apply And.intro)))
 all_goals first
  | exact ⟨_, ⟨bs, _, _, rfl, by omega, by omega, h2⟩, rfl⟩
  | (obtain ⟨k, hk, hk2⟩ := andI_255 _; exact ⟨k, hk2, by rw [hk]⟩)
theorem w76 (n : Int) : Dv Try.prog 76 [I n] (fun g => ∃ k : Int, 0 ≤ k ∧ (0 < n → k < n) ∧ (n ≤ 0 → k = 0) ∧ g = I k) := by
 refine Dv.of0 fun rc H => ?_
 refine gstart mxd i76 rfl (by simp) ?_; simp (maxSteps := 9^7) only [↓ S2, S2, vIte, ↓reduceIte, reduceNe, reduceEqDiff, reduceCtorEq, reduceLeDiff, reduceAdd, reduceLT]
 ((try refine qI ?_); (repeat ((first | with_reducible refine qU ?_ | simp only [brGen]); try simp (maxSteps := 9^7) +contextual only [↓ S2, S2, ↓reduceIte, reduceNe, reduceEqDiff, reduceCtorEq, reduceLeDiff, reduceAdd, reduceLT, VQ, ])); (try simp +contextual (disch := omega) only [Z2, ]); (with_reducible repeat' (first | intro h | refine And.intro (by omega) ?_ | refine exP (by omega) ?_ | apply And.intro)))
 ·exact ⟨0, by omega, by omega, by omega, rfl⟩
 ·refine callS.dv w93 hget_new ?_
  rintro _ ⟨k, hk, rfl⟩
  ((try refine qI ?_); (repeat ((first | with_reducible refine qU ?_ | simp only [brGen]); try simp (maxSteps := 9^7) +contextual only [↓ S2, S2, ↓reduceIte, reduceNe, reduceEqDiff, reduceCtorEq, reduceLeDiff, reduceAdd, reduceLT, VQ, ])); (try simp +contextual (disch := omega) only [Z2, ]); (with_reducible repeat' (first | intro h | refine And.intro (by omega) ?_ | refine exP (by omega) ?_ | apply And.intro)))
  exact ⟨_, Int.tmod_nonneg _ (by omega), fun _ => Int.tmod_lt_of_pos _ (by omega), rfl⟩
 ·refine callS.dv w93 hget_new ?_
  rintro _ ⟨k1, hk1, rfl⟩
  ((try refine qI ?_); (repeat ((first | with_reducible refine qU ?_ | simp only [brGen]); try simp (maxSteps := 9^7) +contextual only [↓ S2, S2, ↓reduceIte, reduceNe, reduceEqDiff, reduceCtorEq, reduceLeDiff, reduceAdd, reduceLT, VQ, ])); (try simp +contextual (disch := omega) only [Z2, ]); (with_reducible repeat' (first | intro h | refine And.intro (by omega) ?_ | refine exP (by omega) ?_ | apply And.intro)))
  refine callS.dv w93 hget_new ?_
  rintro _ ⟨k2, hk2, rfl⟩
  ((try refine qI ?_); (repeat ((first | with_reducible refine qU ?_ | simp only [brGen]); try simp (maxSteps := 9^7) +contextual only [↓ S2, S2, ↓reduceIte, reduceNe, reduceEqDiff, reduceCtorEq, reduceLeDiff, reduceAdd, reduceLT, VQ, ])); (try simp +contextual (disch := omega) only [Z2, ]); (with_reducible repeat' (first | intro h | refine And.intro (by omega) ?_ | refine exP (by omega) ?_ | apply And.intro)))
  refine callS.dv w93 hget_new ?_
  rintro _ ⟨k3, hk3, rfl⟩
  ((try refine qI ?_); (repeat ((first | with_reducible refine qU ?_ | simp only [brGen]); try simp (maxSteps := 9^7) +contextual only [↓ S2, S2, ↓reduceIte, reduceNe, reduceEqDiff, reduceCtorEq, reduceLeDiff, reduceAdd, reduceLT, VQ, ])); (try simp +contextual (disch := omega) only [Z2, ]); (with_reducible repeat' (first | intro h | refine And.intro (by omega) ?_ | refine exP (by omega) ?_ | apply And.intro)))
  refine callS.dv w93 hget_new ?_
  rintro _ ⟨k4, hk4, rfl⟩
  ((try refine qI ?_); (repeat ((first | with_reducible refine qU ?_ | simp only [brGen]); try simp (maxSteps := 9^7) +contextual only [↓ S2, S2, ↓reduceIte, reduceNe, reduceEqDiff, reduceCtorEq, reduceLeDiff, reduceAdd, reduceLT, VQ, ])); (try simp +contextual (disch := omega) only [Z2, ]); (with_reducible repeat' (first | intro h | refine And.intro (by omega) ?_ | refine exP (by omega) ?_ | apply And.intro)))
  exact ⟨_, Int.tmod_nonneg _ (by omega), fun _ => Int.tmod_lt_of_pos _ (by omega), rfl⟩
theorem wz76 (n : Int) (hn : 0 < n) : Dv Try.prog 76 [I n] (fun g => ∃ k : Nat, (k : Int) < n ∧ g = I k) :=
 (w76 n).mono fun g H1 ⟨⟨k, h0, h1, _, h2⟩, h3⟩ => ⟨⟨k.toNat, by have := h1 hn; omega, by rw [h2, Int.toNat_of_nonneg h0]⟩, h3⟩
theorem w59 (n : Int) : Dv Try.prog 59 [I n] (fun g => ∃ b : Bool, g = B b) := by
 refine Dv.of0 fun rc H => ?_
 refine gstart mxd i59 rfl (by simp) ?_; simp (maxSteps := 9^7) only [↓ S2, S2, vIte, ↓reduceIte, reduceNe, reduceEqDiff, reduceCtorEq, reduceLeDiff, reduceAdd, reduceLT]
 refine callS.dv (w76 n) hget_new ?_
 rintro _ ⟨k, h0, h1, h2, rfl⟩
 ((try refine qI ?_); (repeat ((first | with_reducible refine qU ?_ | simp only [brGen]); try simp (maxSteps := 9^7) +contextual only [↓ S2, S2, ↓reduceIte, reduceNe, reduceEqDiff, reduceCtorEq, reduceLeDiff, reduceAdd, reduceLT, VQ, ])); (try simp +contextual (disch := omega) only [Z2, ]); (with_reducible repeat' (first | intro h | refine And.intro (by omega) ?_ | refine exP (by omega) ?_ | apply And.intro)))
 exact ⟨_, rfl⟩
theorem w64 (es : List GV) (ha : noAg es = true) (hl : 0 < es.length) : Dv Try.prog 64 [.sl 1 es] (fun g => g ∈ es) := by
 refine Dv.of0 fun rc H => ?_
 have hA := notAgg ha
 have hB := notRaw ha
 refine gstart mxd i64 rfl (by simp) ?_; simp (maxSteps := 9^7) only [↓ S2, S2, vIte, ↓reduceIte, reduceNe, reduceEqDiff, reduceCtorEq, reduceLeDiff, reduceAdd, reduceLT]
 refine callS.dv (w76 es.length) hget_new ?_
 rintro _ ⟨k, h0, h1, h2, rfl⟩
 obtain ⟨k, rfl⟩ := Int.eq_ofNat_of_zero_le h0
 ((try refine qI ?_); (repeat ((first | with_reducible refine qU ?_ | simp only [brGen]); try simp (maxSteps := 9^7) +contextual only [↓ S2, S2, ↓reduceIte, reduceNe, reduceEqDiff, reduceCtorEq, reduceLeDiff, reduceAdd, reduceLT, VQ, hA, hB])); (try simp +contextual (disch := omega) only [Z2, hA, hB]); (with_reducible repeat' (first | intro h | refine And.intro (by omega) ?_ | refine exP (by omega) ?_ | apply And.intro)))
 all_goals try exact oF
 exact gM _
theorem w85 (es : List GV) (ha : noAg es = true) (hl : 0 < es.length) : Dv Try.prog 85 [.sl 1 es] (fun g => g ∈ es) := by
 refine Dv.of0 fun rc H => ?_
 have hA := notAgg ha
 have hB := notRaw ha
 refine gstart mxd i85 rfl (by simp) ?_; simp (maxSteps := 9^7) only [↓ S2, S2, vIte, ↓reduceIte, reduceNe, reduceEqDiff, reduceCtorEq, reduceLeDiff, reduceAdd, reduceLT]
 refine callS.dv (w76 es.length) hget_new ?_
 rintro _ ⟨k, h0, h1, h2, rfl⟩
 obtain ⟨k, rfl⟩ := Int.eq_ofNat_of_zero_le h0
 ((try refine qI ?_); (repeat ((first | with_reducible refine qU ?_ | simp only [brGen]); try simp (maxSteps := 9^7) +contextual only [↓ S2, S2, ↓reduceIte, reduceNe, reduceEqDiff, reduceCtorEq, reduceLeDiff, reduceAdd, reduceLT, VQ, hA, hB])); (try simp +contextual (disch := omega) only [Z2, hA, hB]); (with_reducible repeat' (first | intro h | refine And.intro (by omega) ?_ | refine exP (by omega) ?_ | apply And.intro)))
 all_goals try exact oF
 exact gM _
theorem w113 (n k : Int) : Pu 113 [I n, I k] (· = ExN (.mk 1 n 0 k noS noS [])) := by
 refine gstart mxd i113 rfl (by simp) ?_; simp (maxSteps := 9^7) only [↓ S2, S2, vIte, ↓reduceIte, reduceNe, reduceEqDiff, reduceCtorEq, reduceLeDiff, reduceAdd, reduceLT]
 ((try refine qI ?_); (repeat ((first | with_reducible refine qU ?_ | simp only [brGen]); try simp (maxSteps := 9^7) +contextual only [↓ S2, S2, ↓reduceIte, reduceNe, reduceEqDiff, reduceCtorEq, reduceLeDiff, reduceAdd, reduceLT, VQ, ])); (try simp +contextual (disch := omega) only [Z2, ]); (with_reducible repeat' (first | intro h | refine And.intro (by omega) ?_ | refine exP (by omega) ?_ | apply And.intro)))
 rfl
theorem o109 (op : Int) (a b : Exp) (H : GH) : Gc 109 [I op, Ex a, Ex b] H (fun g H' => ∃ H1, (∃ r, g = ExR (.mk 4 op 0 0 noS noS [a, b]) r ∧ H1 = [(r, 7, [Ex a, Ex b])]) ∧ H' = H1 ++ H) := by
 refine gstart mxd i109 rfl (by simp) ?_; simp (maxSteps := 9^7) only [↓ S2, S2, vIte, ↓reduceIte, reduceNe, reduceEqDiff, reduceCtorEq, reduceLeDiff, reduceAdd, reduceLT]
 ((try refine qI ?_); (repeat ((first | with_reducible refine qU ?_ | simp only [brGen]); try simp (maxSteps := 9^7) +contextual only [↓ S2, S2, ↓reduceIte, reduceNe, reduceEqDiff, reduceCtorEq, reduceLeDiff, reduceAdd, reduceLT, VQ, XE])); (try simp +contextual (disch := omega) only [Z2, XE]); (with_reducible repeat' (first | intro h | refine And.intro (by omega) ?_ | refine exP (by omega) ?_ | apply And.intro)))
 exact ⟨_, ⟨_, rfl, rfl⟩, rfl⟩
theorem w99 (kind : Int) (l : List Oc) (hl : ∀ o ∈ l, shT o.2) : Dv Try.prog 99 [I kind, OcS l] (fun g => ∃ e, e.args = [] ∧ shD 0 e ∧ g = ExN e) := by
 refine Dv.of0 fun rc H => ?_
 refine gstart mxd i99 rfl (by simp) ?_; simp (maxSteps := 9^7) only [↓ S2, S2, vIte, ↓reduceIte, reduceNe, reduceEqDiff, reduceCtorEq, reduceLeDiff, reduceAdd, reduceLT]
 ((try refine qI ?_); (repeat ((first | with_reducible refine qU ?_ | simp only [brGen]); try simp (maxSteps := 9^7) +contextual only [↓ S2, S2, ↓reduceIte, reduceNe, reduceEqDiff, reduceCtorEq, reduceLeDiff, reduceAdd, reduceLT, VQ, ])); (try simp +contextual (disch := omega) only [Z2, ]); (with_reducible repeat' (first | intro h | refine And.intro (by omega) ?_ | refine exP (by omega) ?_ | apply And.intro)))
 (repeat' ((first | (refine callS.dv (wz76 _ (by omega)) (by first | exact hget_new | (simp only [hget_c, *, if_true, if_false]; done)) ?_; rintro _ ⟨_, _, rfl⟩) | (refine callS.dv (w76 _) (by first | exact hget_new | (simp only [hget_c, *, if_true, if_false]; done)) ?_; rintro _ ⟨_, _, _, _, rfl⟩) | (refine callS.dv (w59 _) (by first | exact hget_new | (simp only [hget_c, *, if_true, if_false]; done)) ?_; rintro _ ⟨_, rfl⟩) | (refine callS.dv (w115) (by first | exact hget_new | (simp only [hget_c, *, if_true, if_false]; done)) ?_; rintro _ ⟨_, _, rfl⟩) | (refine callS.dv (w64 _ rfl (by simp)) (by first | exact hget_new | (simp only [hget_c, *, if_true, if_false]; done)) ?_; intro _ hg; obtain ⟨_, _, rfl⟩ := ltT_mem rfl hg; clear hg) | (refine callS.dv (w85 _ rfl (by simp)) (by first | exact hget_new | (simp only [hget_c, *, if_true, if_false]; done)) ?_; intro _ hg; obtain ⟨_, _, rfl⟩ := ltI_mem (lo := -9223372036854775808) (hi := 9223372036854775807) rfl hg; clear hg) | (with_reducible refine callS.eq (w113 _ _) ?_) | (refine callA.dv (wz76 _ (by omega)) (by first | exact hget_new | (simp only [hget_c, *, if_true, if_false]; done)) ?_; rintro _ ⟨_, _, rfl⟩) | (refine callA.dv (w76 _) (by first | exact hget_new | (simp only [hget_c, *, if_true, if_false]; done)) ?_; rintro _ ⟨_, _, _, _, rfl⟩) | (refine callA.dv (w59 _) (by first | exact hget_new | (simp only [hget_c, *, if_true, if_false]; done)) ?_; rintro _ ⟨_, rfl⟩) | (refine callA.dv (w115) (by first | exact hget_new | (simp only [hget_c, *, if_true, if_false]; done)) ?_; rintro _ ⟨_, _, rfl⟩) | (refine callA.dv (w64 _ rfl (by simp)) (by first | exact hget_new | (simp only [hget_c, *, if_true, if_false]; done)) ?_; intro _ hg; obtain ⟨_, _, rfl⟩ := ltT_mem rfl hg; clear hg) | (refine callA.dv (w85 _ rfl (by simp)) (by first | exact hget_new | (simp only [hget_c, *, if_true, if_false]; done)) ?_; intro _ hg; obtain ⟨_, _, rfl⟩ := ltI_mem (lo := -9223372036854775808) (hi := 9223372036854775807) rfl hg; clear hg) | (with_reducible refine callA.eq (w113 _ _) ?_)); ((try refine qI ?_); (repeat ((first | with_reducible refine qU ?_ | simp only [brGen]); try simp (maxSteps := 9^7) +contextual only [↓ S2, S2, ↓reduceIte, reduceNe, reduceEqDiff, reduceCtorEq, reduceLeDiff, reduceAdd, reduceLT, VQ, ])); (try simp +contextual (disch := omega) only [Z2, ]); (with_reducible repeat' (first | intro h | refine And.intro (by omega) ?_ | refine exP (by omega) ?_ | apply And.intro)))))
 all_goals first
  | exact ⟨.mk _ _ _ _ noS noS [], rfl, shD_leaf (by decide) (by decide), rfl⟩
  | exact ⟨.mk _ _ _ _ noS _ [], rfl, shD_leaf (by decide) (hl _ (gM _)), rfl⟩
  | exact u64_nn _
end Go.Proofs.Ytfpjmfjhdaccnaa
