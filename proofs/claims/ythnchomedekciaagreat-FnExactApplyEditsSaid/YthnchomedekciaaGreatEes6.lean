/- The law FnExactApplyEdits returns true whatever the input, and the input reads behind the call as before. No condition. -/
import Derived.Test.YthnchomedekciaaGreatEes5
set_option maxHeartbeats 40000000
namespace Go.Proofs.YthnchomedekciaaGreat
open Go.Gh
open Nat (reduceEqDiff reduceLeDiff reduceAdd reduceLT)
open Int (reduceNe)
set_option maxRecDepth 20000
set_option linter.unusedSimpArgs false
set_option linter.unusedVariables false
theorem w230 (t : List Exp) (f : Nat) (cs : List GV) (p : Exp → Bool) (hp : ∀ x ∈ t, Pu f (Ex x :: cs) (· = B (p x))) :
  Pu 230 [ExS t, .clo f cs] (· = I (ixOf p t)) := by
 refine GCalls.lenA fun hl => ?_
 have hlen := hl.1.1
 simp only [List.length_map, maxL] at hlen
 refine gstart mxd i230 rfl (by simp) ?_; refine X0 ?_
 refine wloop mxd (ι := { i : Nat // i ≤ t.length ∧ ∀ y ∈ t.take i, p y = false }) (fun i => [(0, ExS t), (1, .clo f cs), (7, I t.length), (8, I i.1)]) (fun _ => []) (fun i => t.length - i.1) ⟨0, by simp⟩ (by simp [E2]) rfl ?_
 rintro ⟨i, hi, hn⟩
 ((try refine qI ?_); (repeat ((first | with_reducible refine qU ?_ | simp only [brGen]); try simp (maxSteps := 9^7) only [↓ S2, S2, vIte, ↓reduceIte, reduceNe, reduceEqDiff, reduceCtorEq, reduceLeDiff, reduceAdd, reduceLT, isAgg_Ex, geR_Ex, gsize_Ex, stor_Ex])); (try simp +contextual (disch := omega) only [Z2, isAgg_Ex, geR_Ex, gsize_Ex, stor_Ex]); (with_reducible repeat' (first | intro h | refine And.intro (by omega) ?_ | refine exP (by omega) ?_ | apply And.intro)))
 ·refine callS.eq (hp t[i] (List.getElem_mem _)) ?_
  (refine R0 ?_; with_reducible repeat' first|exact trivial|intro h|refine aO ?_|refine eO ?_|apply jO)
  ·rw [ixOf_hit (by assumption) h hn]
  ·exact nx ⟨i + 1, by omega, take_step (by assumption) h hn⟩ (by simp; omega) (by simp [E2]) rfl
 ·have : i = t.length := by omega
  subst this
  rw [List.take_of_length_le (Nat.le_refl _)] at hn
  rw [ixOf_none hn]
theorem w176 (t : List Exp) (f : Nat) (cs : List GV) (p : Exp → Bool) (hp : ∀ x ∈ t, Pu f (Ex x :: cs) (· = B (p x))) :
  Pu 176 [ExS t, .clo f cs] (· = B (t.any p)) := by
 refine gstart mxd i176 rfl (by simp) ?_; refine X0 ?_
 refine callS.eq (w230 t f cs p hp) ?_
 (refine R0 ?_; with_reducible repeat' first|exact trivial|intro h|refine aO ?_|refine eO ?_|apply jO)
 rw [← any_ix]
theorem w231 (f : Nat) (cs : List GV) (p : Exp → Bool) (ok : Exp → Prop) (hok : ∀ e, ok e → ∀ a ∈ e.args, ok a) (hp : ∀ x, ok x → Pu f (Ex x :: cs) (· = B (p x))) :
  ∀ e, ok e → Pu 231 [Ex e, .clo f cs] (· = B (allE p e)) := by
 refine Exp.indA fun e ih he => ?_
 have hq := hp e he
 rw [Ex_eq] at hq ⊢
 refine gstart mxd i231 rfl (by simp) ?_; refine X0 ?_
 refine ⟨rfl, callS.eq hq ?_⟩
 (refine R0 ?_; with_reducible repeat' first|exact trivial|intro h|refine aO ?_|refine eO ?_|apply jO)
 ·refine callS.eq (w176 e.args _ _ (fun a => !allE p a) fun a ha => ?_) ?_
  ·refine gstart mxd i280 rfl (by simp) ?_; refine X0 ?_
   ((try refine qI ?_); (repeat ((first | with_reducible refine qU ?_ | simp only [brGen]); try simp (maxSteps := 9^7) only [↓ S2, S2, vIte, ↓reduceIte, reduceNe, reduceEqDiff, reduceCtorEq, reduceLeDiff, reduceAdd, reduceLT, isAgg_Ex, geR_Ex, gsize_Ex, stor_Ex])); (try simp +contextual (disch := omega) only [Z2, isAgg_Ex, geR_Ex, gsize_Ex, stor_Ex]); (with_reducible repeat' (first | intro h | refine And.intro (by omega) ?_ | refine exP (by omega) ?_ | apply And.intro)))
   refine callS.eq (ih a ha (hok e he a ha)) ?_
   (refine R0 ?_; with_reducible repeat' first|exact trivial|intro h|refine aO ?_|refine eO ?_|apply jO)
  ·(refine R0 ?_; with_reducible repeat' first|exact trivial|intro h|refine aO ?_|refine eO ?_|apply jO)
   rw [allE_eq]
   simp_all [any_not]
 ·rw [allE_eq]
  simp_all
theorem w312 (c : UInt8) : Pu 312 [.val (.int .u8 c.toNat)] (· = B (letV c)) := by
 refine gstart mxd i312 rfl (by simp) ?_; refine X0 ?_
 (refine R0 ?_; with_reducible repeat' first|exact trivial|intro h|refine aO ?_|refine eO ?_|apply jO) <;> simp_all [letV] <;> (intros; omega)
theorem w313 (c : UInt8) : Pu 313 [.val (.int .u8 c.toNat)] (· = B (digV c)) := by
 refine gstart mxd i313 rfl (by simp) ?_; refine X0 ?_
 (refine R0 ?_; with_reducible repeat' first|exact trivial|intro h|refine aO ?_|refine eO ?_|apply jO) <;> simp_all [digV] <;> (intros; omega)
theorem w333 : Pu 333 [] (· = .sl 1 (kwS.map T)) := by
 have o : Gc 333 [] [] (fun g H' => ∃ r, g = .own r 1 0 13 ∧ H' = [(r, 1, kwS.map T)]) := by
  refine gstart mxd i333 rfl (by simp) ?_; refine X0 ?_
  intro r hr
  exact ⟨r, rfl, rfl⟩
 refine o.fr ?_
 rintro g H' ⟨r, rfl, rfl⟩
 exact ⟨_, _, FR.freeze hget_new (.all hget_new (by simp [kwS]) (by simp [view, kwS])), rfl⟩
theorem w243 (l : List ByteArray) (s : ByteArray) : Pu 243 [.sl 1 (l.map T), T s] (· = B (hasS l s)) := by
 refine GCalls.lenA fun hl => ?_
 have hlen := hl.1.1
 simp only [List.length_map, maxL] at hlen
 refine gstart mxd i243 rfl (by simp) ?_; refine X0 ?_
 refine wloop mxd (ι := { i : Nat // i ≤ l.length ∧ ∀ y ∈ l.take i, decide (y = s) = false }) (fun i => [(0, .sl 1 (l.map T)), (1, T s), (5, I i.1)]) (fun _ => []) (fun i => l.length - i.1) ⟨0, by simp⟩ (by simp [E2]) rfl ?_
 rintro ⟨i, hi, hn⟩
 (refine R0 ?_; with_reducible repeat' first|exact trivial|intro h|refine aO ?_|refine eO ?_|apply jO)
 ·rw [hasS_hit (by assumption) h]
 ·exact nx ⟨i + 1, by omega, take_step (by assumption) (by simpa using h) hn⟩ (by simp; omega) (by simp [E2]) rfl
 ·have : i = l.length := by omega
  subst this
  rw [List.take_of_length_le (Nat.le_refl _)] at hn
  rw [hasS_none hn]
theorem w314 (s : ByteArray) : Pu 314 [T s] (· = B (resV s)) := by
 refine gstart mxd i314 rfl (by simp) ?_; refine X0 ?_
 (refine R0 ?_; with_reducible repeat' first|exact trivial|intro h|refine aO ?_|refine eO ?_|apply jO)
 all_goals first | (simp_all [resV, hasS, kwS, show ∀ x, (x = s) = (s = x) from fun x => propext eq_comm]; done) | skip
theorem w316 (s : ByteArray) : Pu 316 [T s] (· = B (resV s)) := by
 refine gstart mxd i316 rfl (by simp) ?_; refine X0 ?_
 refine callS.eq w333 ?_
 (refine R0 ?_; with_reducible repeat' first|exact trivial|intro h|refine aO ?_|refine eO ?_|apply jO)
 refine callS.eq (w243 _ _) ?_
 (refine R0 ?_; with_reducible repeat' first|exact trivial|intro h|refine aO ?_|refine eO ?_|apply jO)
 rfl
theorem w315 (s : ByteArray) (hs : s.size ≤ maxLen) : Pu 315 [T s] (· = B (shp (chars s))) := by
  simp only [maxLen, size_chars] at hs
  refine gstart mxd i315 rfl (by simp) ?_; refine X0 ?_
  refine wloop mxd (ι := { i : Nat // i ≤ (chars s).length ∧ ∀ (j : Nat) (h : j < (chars s).length), j < i → letV (chars s)[j] = true ∨ (j ≠ 0 ∧ digV (chars s)[j] = true) }) (fun i => [(0, T s), (3, I i.1)]) (fun _ => []) (fun i => (chars s).length - i.1) ⟨0, by simp⟩ (by simp [E2]) rfl ?_
  rintro ⟨i, hi, hn⟩
  (refine R0 ?_; with_reducible repeat' first|exact trivial|intro h|refine aO ?_|refine eO ?_|apply jO)
  all_goals first
    | (rw [shp_bad (i := i) (by assumption) (by simp only [letV, digV, Bool.and_eq_true, decide_eq_true_eq]; omega)]; done)
    | (have hlt : i < (chars s).length := by omega
       have hg : letV (chars s)[i] = true ∨ (i ≠ 0 ∧ digV (chars s)[i] = true) := by
         simp only [letV, digV, Bool.and_eq_true, decide_eq_true_eq]
         omega
       exact nx ⟨i + 1, by omega, shp_step hlt hn hg⟩ (by simp; omega) (by simp [E2]) rfl)
    | (have : i = (chars s).length := by omega
       subst this
       rw [shp_end hn]
       simp; done)
    | skip
  all_goals have hlt : i < (chars s).length := by omega
  all_goals have hg : letV (chars s)[i] = true ∨ (i ≠ 0 ∧ digV (chars s)[i] = true) := by (simp only [letV, digV, Bool.and_eq_true, decide_eq_true_eq]; omega)
  all_goals refine nx ⟨i + 1, by omega, shp_step hlt hn hg⟩ ?_ ?_ rfl
  all_goals first | (simp only; omega) | exact (by simp [E2]) | skip
theorem w289 (s : ByteArray) (hs : s.size ≤ maxLen) : Pu 289 [T s] (· = B (nameV s)) := by
 have hs' := hs
 simp only [maxLen, size_chars] at hs'
 refine gstart mxd i289 rfl (by simp) ?_; refine X0 ?_
 refine callS.eq (w315 s hs) ?_
 (refine R0 ?_; with_reducible repeat' first|exact trivial|intro h|refine aO ?_|refine eO ?_|apply jO)
 all_goals try (refine callS.eq (w316 _) ?_; (refine R0 ?_; with_reducible repeat' first|exact trivial|intro h|refine aO ?_|refine eO ?_|apply jO))
 all_goals simp_all [nameV]
 all_goals try (intros; omega)
theorem w282 (s : ByteArray) (hs : s.size ≤ maxLen) : Pu 282 [T s] (· = B (nameV s)) := by
  simp only [maxLen, size_chars] at hs
  refine gstart mxd i282 rfl (by simp) ?_; refine X0 ?_
  refine wloop mxd (ι := { i : Nat // i ≤ (chars s).length ∧ ∀ (j : Nat) (h : j < (chars s).length), j < i → letV (chars s)[j] = true ∨ digV (chars s)[j] = true }) (fun i => [(0, T s), (5, I (chars s).length), (6, I i.1)]) (fun _ => []) (fun i => (chars s).length - i.1) ⟨0, by simp⟩ (by simp [E2]) rfl ?_
  rintro ⟨i, hi, hn⟩
  rcases Nat.lt_or_ge i (chars s).length with hlt | hge
  · have hnx : letV (chars s)[i] = true ∨ digV (chars s)[i] = true → ∀ (j : Nat) (h : j < (chars s).length), j < i + 1 → letV (chars s)[j] = true ∨ digV (chars s)[j] = true := fun hg j hj hji => by
      by_cases e : j = i
      · subst e; exact hg
      · exact hn j hj (by omega)
    (repeat' (first | (with_reducible refine callS.eq (w312 _) ?_) | (with_reducible refine callS.eq (w313 _) ?_) | simp (maxSteps := 9^7) only [↓ S2, S2, vIte, ↓reduceIte, reduceNe, reduceEqDiff, reduceCtorEq, reduceLeDiff, reduceAdd, reduceLT] | simp only [brGen] | simp +contextual (disch := omega) only [Z2] | with_reducible first | intro h | refine And.intro (by omega) ?_ | refine exP (by omega) ?_ | apply And.intro))
    all_goals try (exfalso; omega)
    · exact nx ⟨i + 1, by omega, hnx (.inl h)⟩ (by show (chars s).length - (i + 1) < (chars s).length - i; omega) (by simp [E2]) rfl
    · exact nx ⟨i + 1, by omega, hnx (.inr h)⟩ (by show (chars s).length - (i + 1) < (chars s).length - i; omega) (by simp [E2]) rfl
    · rw [nameV_parts, shp_no hlt (by assumption) (by assumption)]; rfl
  · have : i = (chars s).length := by omega
    subst this
    (repeat' (first | (with_reducible refine callS.eq (w48 _ _ _) ?_) | (with_reducible refine callS.eq (w312 _) ?_) | (with_reducible refine callS.eq (w314 _) ?_) | simp (maxSteps := 9^7) only [↓ S2, S2, vIte, ↓reduceIte, reduceNe, reduceEqDiff, reduceCtorEq, reduceLeDiff, reduceAdd, reduceLT] | simp only [brGen] | simp +contextual (disch := omega) only [Z2] | with_reducible first | intro h | refine And.intro (by omega) ?_ | refine exP (by omega) ?_ | apply And.intro))
    all_goals try (exfalso; omega)
    all_goals first
      | (rw [nameV_parts, shp_yes (by omega) (by assumption) (fun j h => hn j h h), decide_eq_true (by omega)]; rfl)
      | (rw [nameV_parts, shp_no0 (by omega) (by assumption)]; rfl)
      | (rw [nameV_parts, decide_eq_false (show ¬ (chars s).length ≤ 8 by omega), Bool.and_false]; rfl)
      | (rcases Nat.eq_zero_or_pos (chars s).length with h0 | h0
         · rw [nameV_parts, List.eq_nil_of_length_eq_zero h0]; rfl
         · rw [nameV_parts, decide_eq_false (show ¬ (chars s).length ≤ 8 by omega), Bool.and_false]; rfl)
theorem w283 (e : Exp) (k n p t : Int) (s m : ByteArray) (a : List Exp) : Pu 283 [Ex e, .agg [I k, I n, I p, I t, T s, T m, ExS a]] (· = B (decide (e.kind = k) && (decide (e.n = n) && (decide (e.pos = p) && (decide (e.type = t) && (decide (e.sym = s) && decide (e.name = m))))))) := by
 refine gstart mxd i283 rfl (by simp) ?_; refine X0 ?_
 (repeat' (first | (with_reducible refine callS.eq (w48 _ _ _) ?_) | simp (maxSteps := 9^7) only [↓ S2, S2, vIte, ↓reduceIte, reduceNe, reduceEqDiff, reduceCtorEq, reduceLeDiff, reduceAdd, reduceLT, XE] | simp only [brGen] | simp +contextual (disch := omega) only [Z2] | with_reducible first | intro h | refine And.intro (by omega) ?_ | refine exP (by omega) ?_ | apply And.intro))
 all_goals (simp_all; done)
theorem Tryz.dec_i {p : Prop} {i : Decidable p} : (@decide p i = true) = p := propext ⟨of_decide_eq_true, decide_eq_true⟩
theorem Tryz.chN (s : ByteArray) : (chars s = chars (⟨#[]⟩ : ByteArray)) = (s = noS) := propext chars_inj
theorem w305 (e : Exp) (hl : e.args.length ≤ 1048576) : Pu 305 [Ex e] (· = B (bareV e)) := by
 have hk : e.kind = 1 ∨ e.kind = 3 ∨ e.kind = 4 ∨ e.kind = 5 ∨ e.kind = 6 ∨ e.kind = 8 ∨ (¬ e.kind = 1 ∧ ¬ e.kind = 3 ∧ ¬ e.kind = 4 ∧ ¬ e.kind = 5 ∧ ¬ e.kind = 6 ∧ ¬ e.kind = 8) := by omega
 have hl0 : ((e.args.length : Int) = 0) = (e.args.length = 0) := propext (by omega)
 have hl1 : ((e.args.length : Int) = 1) = (e.args.length = 1) := propext (by omega)
 have hl2 : ((e.args.length : Int) = 2) = (e.args.length = 2) := propext (by omega)
 have hl3 : ((e.args.length : Int) = 3) = (e.args.length = 3) := propext (by omega)
 rcases hk with hk | hk | hk | hk | hk | hk | ⟨hk1, hk3, hk4, hk5, hk6, hk8⟩
 all_goals
  refine gstart mxd i305 rfl (by simp) ?_; refine X0 ?_
  first | simp (maxSteps := 9^7) only [↓ S2, S2, vIte, ↓reduceIte, reduceNe, reduceEqDiff, reduceCtorEq, reduceLeDiff, reduceAdd, reduceLT, XE, hk, Int.reduceEq, decide_false, decide_true, hl0, hl1, hl2, hl3] | simp (maxSteps := 9^7) only [↓ S2, S2, vIte, ↓reduceIte, reduceNe, reduceEqDiff, reduceCtorEq, reduceLeDiff, reduceAdd, reduceLT, XE, hk1, hk3, hk4, hk5, hk6, hk8, Int.reduceEq, decide_false, decide_true, hl0, hl1, hl2, hl3]
  try simp only [Tryz.chN]
  clear hl0 hl1 hl2 hl3
  (with_reducible repeat' (first | intro h | refine And.intro (by omega) ?_ | refine exP (by omega) ?_ | apply And.intro))
  all_goals
   congr 2
   rw [Bool.eq_iff_iff]
   simp [bareV, arity, Tryz.dec_i, *]
end Go.Proofs.YthnchomedekciaaGreat
