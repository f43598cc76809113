/- The laws FnExactIsSolution and FnExactIsStatic return true whatever the input, and the input reads behind the call as before. No condition. -/
import Derived.Test.YtbdmpkidcpblaaaGreatCis6
namespace Go.Proofs.YtbdmpkidcpblaaaGreat
open Go.Gh
open Nat (reduceEqDiff reduceLeDiff reduceAdd reduceLT)
open Int (reduceNe)
set_option maxRecDepth 20000
set_option linter.unusedSimpArgs false
set_option linter.unusedVariables false
theorem w177 (t : List Exp) (f : Nat) (cs : List GV) (p : Exp → Bool) (hp : ∀ x ∈ t, Pure Tryz.prog f (Ex x :: cs) (· = B (p x))) :
    Pure Tryz.prog 177 [ExS t, .clo f cs] (· = I (ixOf p t)) := by
  refine GCalls.lenA fun hl => ?_
  have hlen := hl.1.1
  simp only [List.length_map, maxL] at hlen
  refine gstart mxd i177 rfl (by simp) ?_; refine X0 ?_
  refine wloop mxd (ι := { i : Nat // i ≤ t.length ∧ ∀ y ∈ t.take i, p y = false }) (fun i => [(0, ExS t), (1, .clo f cs), (7, I t.length), (8, I i.1)]) (fun _ => []) (fun i => t.length - i.1) ⟨0, by simp⟩ (by simp [E2]) rfl ?_
  rintro ⟨i, hi, hn⟩
  ((try refine qI ?_); (repeat ((first | with_reducible refine qU ?_ | simp only [brGen]); try simp (maxSteps := 9^7) only [↓ S2, S2, vIte, ↓reduceIte, reduceNe, reduceEqDiff, reduceCtorEq, reduceLeDiff, reduceAdd, reduceLT, isAgg_Ex, geR_Ex, gsize_Ex, stor_Ex])); (try simp +contextual (disch := omega) only [Z2, isAgg_Ex, geR_Ex, gsize_Ex, stor_Ex]); (with_reducible repeat' (first | intro h | refine And.intro (by omega) ?_ | refine exP (by omega) ?_ | apply And.intro)))
  · refine callS.eq (hp t[i] (List.getElem_mem _)) ?_
    (refine R0 ?_; with_reducible repeat' first | exact trivial | intro h | refine aO ?_ | refine eO ?_ | apply And.intro)
    · rw [ixOf_hit (by assumption) h hn]
    · exact nx ⟨i + 1, by omega, take_step (by assumption) h hn⟩ (by simp; omega) (by simp [E2]) rfl
  · have : i = t.length := by omega
    subst this
    rw [List.take_of_length_le (Nat.le_refl _)] at hn
    rw [ixOf_none hn]
theorem w109 (t : List Exp) (f : Nat) (cs : List GV) (p : Exp → Bool) (hp : ∀ x ∈ t, Pure Tryz.prog f (Ex x :: cs) (· = B (p x))) :
    Pure Tryz.prog 109 [ExS t, .clo f cs] (· = B (t.any p)) := by
  refine gstart mxd i109 rfl (by simp) ?_; refine X0 ?_
  refine callS.eq (w177 t f cs p hp) ?_
  (refine R0 ?_; with_reducible repeat' first | exact trivial | intro h | refine aO ?_ | refine eO ?_ | apply And.intro)
  rw [← any_ix]
theorem w178 (f : Nat) (cs : List GV) (p : Exp → Bool) (ok : Exp → Prop) (hok : ∀ e, ok e → ∀ a ∈ e.args, ok a) (hp : ∀ x, ok x → Pure Tryz.prog f (Ex x :: cs) (· = B (p x))) :
    ∀ e, ok e → Pure Tryz.prog 178 [Ex e, .clo f cs] (· = B (allE p e)) := by
  refine Exp.indA fun e ih he => ?_
  have hq := hp e he
  rw [Ex_eq] at hq ⊢
  refine gstart mxd i178 rfl (by simp) ?_; refine X0 ?_
  refine ⟨rfl, callS.eq hq ?_⟩
  (refine R0 ?_; with_reducible repeat' first | exact trivial | intro h | refine aO ?_ | refine eO ?_ | apply And.intro)
  · refine callS.eq (w109 e.args _ _ (fun a => !allE p a) fun a ha => ?_) ?_
    · refine gstart mxd i229 rfl (by simp) ?_; refine X0 ?_
      ((try refine qI ?_); (repeat ((first | with_reducible refine qU ?_ | simp only [brGen]); try simp (maxSteps := 9^7) only [↓ S2, S2, vIte, ↓reduceIte, reduceNe, reduceEqDiff, reduceCtorEq, reduceLeDiff, reduceAdd, reduceLT, isAgg_Ex, geR_Ex, gsize_Ex, stor_Ex])); (try simp +contextual (disch := omega) only [Z2, isAgg_Ex, geR_Ex, gsize_Ex, stor_Ex]); (with_reducible repeat' (first | intro h | refine And.intro (by omega) ?_ | refine exP (by omega) ?_ | apply And.intro)))
      refine callS.eq (ih a ha (hok e he a ha)) ?_
      (refine R0 ?_; with_reducible repeat' first | exact trivial | intro h | refine aO ?_ | refine eO ?_ | apply And.intro)
    · (refine R0 ?_; with_reducible repeat' first | exact trivial | intro h | refine aO ?_ | refine eO ?_ | apply And.intro)
      rw [allE_eq]
      simp_all [any_not]
  · rw [allE_eq]
    simp_all
theorem w266 (c : UInt8) : Pure Tryz.prog 266 [.val (.int .u8 c.toNat)] (· = B (letV c)) := by
  refine gstart mxd i266 rfl (by simp) ?_; refine X0 ?_
  (refine R0 ?_; with_reducible repeat' first | exact trivial | intro h | refine aO ?_ | refine eO ?_ | apply And.intro) <;> simp_all [letV] <;> (intros; omega)
theorem w267 (c : UInt8) : Pure Tryz.prog 267 [.val (.int .u8 c.toNat)] (· = B (digV c)) := by
  refine gstart mxd i267 rfl (by simp) ?_; refine X0 ?_
  (refine R0 ?_; with_reducible repeat' first | exact trivial | intro h | refine aO ?_ | refine eO ?_ | apply And.intro) <;> simp_all [digV] <;> (intros; omega)
theorem w295 : Pure Tryz.prog 295 [] (· = .sl 1 (kwS.map T)) := by
  have o : GCalls Tryz.prog 295 [] [] (fun g H' => ∃ r, g = .own r 1 0 13 ∧ H' = [(r, 1, kwS.map T)]) := by
    refine gstart mxd i295 rfl (by simp) ?_; refine X0 ?_
    intro r hr
    exact ⟨r, rfl, rfl⟩
  refine o.fr ?_
  rintro g H' ⟨r, rfl, rfl⟩
  exact ⟨_, _, FR.freeze hget_new (.all hget_new (by simp [kwS]) (by simp [view, kwS])), rfl⟩
theorem w148 (l : List ByteArray) (s : ByteArray) : Pure Tryz.prog 148 [.sl 1 (l.map T), T s] (· = B (hasS l s)) := by
  refine GCalls.lenA fun hl => ?_
  have hlen := hl.1.1
  simp only [List.length_map, maxL] at hlen
  refine gstart mxd i148 rfl (by simp) ?_; refine X0 ?_
  refine wloop mxd (ι := { i : Nat // i ≤ l.length ∧ ∀ y ∈ l.take i, decide (y = s) = false }) (fun i => [(0, .sl 1 (l.map T)), (1, T s), (5, I i.1)]) (fun _ => []) (fun i => l.length - i.1) ⟨0, by simp⟩ (by simp [E2]) rfl ?_
  rintro ⟨i, hi, hn⟩
  (refine R0 ?_; with_reducible repeat' first | exact trivial | intro h | refine aO ?_ | refine eO ?_ | apply And.intro)
  · rw [hasS_hit (by assumption) h]
  · exact nx ⟨i + 1, by omega, take_step (by assumption) (by simpa using h) hn⟩ (by simp; omega) (by simp [E2]) rfl
  · have : i = l.length := by omega
    subst this
    rw [List.take_of_length_le (Nat.le_refl _)] at hn
    rw [hasS_none hn]
theorem w268 (s : ByteArray) : Pure Tryz.prog 268 [T s] (· = B (resV s)) := by
  refine gstart mxd i268 rfl (by simp) ?_; refine X0 ?_
  (refine R0 ?_; with_reducible repeat' first | exact trivial | intro h | refine aO ?_ | refine eO ?_ | apply And.intro)
  all_goals first | (simp_all [resV, hasS, kwS, show ∀ x, (x = s) = (s = x) from fun x => propext eq_comm]; done) | skip
theorem w262 (s : ByteArray) : Pure Tryz.prog 262 [T s] (· = B (resV s)) := by
  refine gstart mxd i262 rfl (by simp) ?_; refine X0 ?_
  refine callS.eq w295 ?_
  (refine R0 ?_; with_reducible repeat' first | exact trivial | intro h | refine aO ?_ | refine eO ?_ | apply And.intro)
  refine callS.eq (w148 _ _) ?_
  (refine R0 ?_; with_reducible repeat' first | exact trivial | intro h | refine aO ?_ | refine eO ?_ | apply And.intro)
  rfl
theorem w261 (s : ByteArray) (hs : s.size ≤ maxLen) : Pure Tryz.prog 261 [T s] (· = B (shp (chars s))) := by
  simp only [maxLen, size_chars] at hs
  refine gstart mxd i261 rfl (by simp) ?_; refine X0 ?_
  refine wloop mxd (ι := { i : Nat // i ≤ (chars s).length ∧ ∀ (j : Nat) (h : j < (chars s).length), j < i → letV (chars s)[j] = true ∨ (j ≠ 0 ∧ digV (chars s)[j] = true) }) (fun i => [(0, T s), (3, I i.1)]) (fun _ => []) (fun i => (chars s).length - i.1) ⟨0, by simp⟩ (by simp [E2]) rfl ?_
  rintro ⟨i, hi, hn⟩
  (refine R0 ?_; with_reducible repeat' first | exact trivial | intro h | refine aO ?_ | refine eO ?_ | apply And.intro)
  all_goals first
    | (rw [shp_bad (i := i) (by assumption) (by simp only [letV, digV, Bool.and_eq_true, decide_eq_true_eq]; omega)]; done)
    | (have hlt : i < (chars s).length := by omega
       have hg : letV (chars s)[i] = true ∨ (i ≠ 0 ∧ digV (chars s)[i] = true) := by
         simp only [letV, digV, Bool.and_eq_true, decide_eq_true_eq]
         omega
       exact nx ⟨i + 1, by omega, shp_step hlt hn hg⟩ (by simp; omega) (by simp [E2]) rfl)
    | (have : i = (chars s).length := by omega
       subst this
       rw [shp_end hn]
       simp; done)
    | skip
  all_goals have hlt : i < (chars s).length := by omega
  all_goals have hg : letV (chars s)[i] = true ∨ (i ≠ 0 ∧ digV (chars s)[i] = true) := by (simp only [letV, digV, Bool.and_eq_true, decide_eq_true_eq]; omega)
  all_goals refine nx ⟨i + 1, by omega, shp_step hlt hn hg⟩ ?_ ?_ rfl
  all_goals first | (simp only; omega) | exact (by simp [E2]) | skip
theorem w214 (s : ByteArray) (hs : s.size ≤ maxLen) : Pure Tryz.prog 214 [T s] (· = B (nameV s)) := by
  have hs' := hs
  simp only [maxLen, size_chars] at hs'
  refine gstart mxd i214 rfl (by simp) ?_; refine X0 ?_
  refine callS.eq (w261 s hs) ?_
  (refine R0 ?_; with_reducible repeat' first | exact trivial | intro h | refine aO ?_ | refine eO ?_ | apply And.intro)
  all_goals try (refine callS.eq (w262 _) ?_; (refine R0 ?_; with_reducible repeat' first | exact trivial | intro h | refine aO ?_ | refine eO ?_ | apply And.intro))
  all_goals simp_all [nameV]
  all_goals try (intros; omega)
set_option maxHeartbeats 2000000 in
theorem w224 (s : ByteArray) (hs : s.size ≤ maxLen) : Pure Tryz.prog 224 [T s] (· = B (nameV s)) := by
  simp only [maxLen, size_chars] at hs
  refine gstart mxd i224 rfl (by simp) ?_; refine X0 ?_
  refine wloop mxd (ι := { i : Nat // i ≤ (chars s).length ∧ ∀ (j : Nat) (h : j < (chars s).length), j < i → letV (chars s)[j] = true ∨ digV (chars s)[j] = true }) (fun i => [(0, T s), (5, I (chars s).length), (6, I i.1)]) (fun _ => []) (fun i => (chars s).length - i.1) ⟨0, by simp⟩ (by simp [E2]) rfl ?_
  rintro ⟨i, hi, hn⟩
  rcases Nat.lt_or_ge i (chars s).length with hlt | hge
  · have hnx : letV (chars s)[i] = true ∨ digV (chars s)[i] = true → ∀ (j : Nat) (h : j < (chars s).length), j < i + 1 → letV (chars s)[j] = true ∨ digV (chars s)[j] = true := fun hg j hj hji => by
      by_cases e : j = i
      · subst e; exact hg
      · exact hn j hj (by omega)
    (repeat' (first | (with_reducible refine callS.eq (w266 _) ?_) | (with_reducible refine callS.eq (w267 _) ?_) | simp (maxSteps := 9^7) only [↓ S2, S2, vIte, ↓reduceIte, reduceNe, reduceEqDiff, reduceCtorEq, reduceLeDiff, reduceAdd, reduceLT] | simp only [brGen] | simp +contextual (disch := omega) only [Z2] | with_reducible first | intro h | refine And.intro (by omega) ?_ | refine exP (by omega) ?_ | apply And.intro))
    all_goals try (exfalso; omega)
    · exact nx ⟨i + 1, by omega, hnx (.inl h)⟩ (by show (chars s).length - (i + 1) < (chars s).length - i; omega) (by simp [E2]) rfl
    · exact nx ⟨i + 1, by omega, hnx (.inr h)⟩ (by show (chars s).length - (i + 1) < (chars s).length - i; omega) (by simp [E2]) rfl
    · rw [nameV_parts, shp_no hlt (by assumption) (by assumption)]; rfl
  · have : i = (chars s).length := by omega
    subst this
    (repeat' (first | (with_reducible refine callS.eq (w73 _ _ _) ?_) | (with_reducible refine callS.eq (w266 _) ?_) | (with_reducible refine callS.eq (w268 _) ?_) | simp (maxSteps := 9^7) only [↓ S2, S2, vIte, ↓reduceIte, reduceNe, reduceEqDiff, reduceCtorEq, reduceLeDiff, reduceAdd, reduceLT] | simp only [brGen] | simp +contextual (disch := omega) only [Z2] | with_reducible first | intro h | refine And.intro (by omega) ?_ | refine exP (by omega) ?_ | apply And.intro))
    all_goals try (exfalso; omega)
    all_goals first
      | (rw [nameV_parts, shp_yes (by omega) (by assumption) (fun j h => hn j h h), decide_eq_true (by omega)]; rfl)
      | (rw [nameV_parts, shp_no0 (by omega) (by assumption)]; rfl)
      | (rw [nameV_parts, decide_eq_false (show ¬ (chars s).length ≤ 8 by omega), Bool.and_false]; rfl)
      | (rcases Nat.eq_zero_or_pos (chars s).length with h0 | h0
         · rw [nameV_parts, List.eq_nil_of_length_eq_zero h0]; rfl
         · rw [nameV_parts, decide_eq_false (show ¬ (chars s).length ≤ 8 by omega), Bool.and_false]; rfl)
set_option maxHeartbeats 20000000 in
theorem w298 (e : Exp) (k n p t : Int) (s m : ByteArray) (a : List Exp) : Pure Tryz.prog 298 [Ex e, .agg [I k, I n, I p, I t, T s, T m, ExS a]] (· = B (decide (e.kind = k) && (decide (e.n = n) && (decide (e.pos = p) && (decide (e.type = t) && (decide (e.sym = s) && decide (e.name = m))))))) := by
  refine gstart mxd i298 rfl (by simp) ?_; refine X0 ?_
  (repeat' (first | (with_reducible refine callS.eq (w73 _ _ _) ?_) | simp (maxSteps := 9^7) only [↓ S2, S2, vIte, ↓reduceIte, reduceNe, reduceEqDiff, reduceCtorEq, reduceLeDiff, reduceAdd, reduceLT, XE] | simp only [brGen] | simp +contextual (disch := omega) only [Z2] | with_reducible first | intro h | refine And.intro (by omega) ?_ | refine exP (by omega) ?_ | apply And.intro))
  all_goals (simp_all; done)
theorem Tryz.dec_i {p : Prop} {i : Decidable p} : (@decide p i = true) = p := propext ⟨of_decide_eq_true, decide_eq_true⟩
theorem Tryz.chN (s : ByteArray) : (chars s = chars (⟨#[]⟩ : ByteArray)) = (s = noS) := propext chars_inj
set_option maxHeartbeats 20000000 in
theorem w296 (e : Exp) (hl : e.args.length ≤ 1048576) : Pure Tryz.prog 296 [Ex e] (· = B (bareV e)) := by
  have hk : e.kind = 1 ∨ e.kind = 3 ∨ e.kind = 4 ∨ e.kind = 5 ∨ e.kind = 6 ∨ e.kind = 8 ∨ (¬ e.kind = 1 ∧ ¬ e.kind = 3 ∧ ¬ e.kind = 4 ∧ ¬ e.kind = 5 ∧ ¬ e.kind = 6 ∧ ¬ e.kind = 8) := by omega
  have hl0 : ((e.args.length : Int) = 0) = (e.args.length = 0) := propext (by omega)
  have hl1 : ((e.args.length : Int) = 1) = (e.args.length = 1) := propext (by omega)
  have hl2 : ((e.args.length : Int) = 2) = (e.args.length = 2) := propext (by omega)
  have hl3 : ((e.args.length : Int) = 3) = (e.args.length = 3) := propext (by omega)
  rcases hk with hk | hk | hk | hk | hk | hk | ⟨hk1, hk3, hk4, hk5, hk6, hk8⟩
  all_goals
    refine gstart mxd i296 rfl (by simp) ?_; refine X0 ?_
    first | simp (maxSteps := 9^7) only [↓ S2, S2, vIte, ↓reduceIte, reduceNe, reduceEqDiff, reduceCtorEq, reduceLeDiff, reduceAdd, reduceLT, XE, hk, Int.reduceEq, decide_false, decide_true, hl0, hl1, hl2, hl3] | simp (maxSteps := 9^7) only [↓ S2, S2, vIte, ↓reduceIte, reduceNe, reduceEqDiff, reduceCtorEq, reduceLeDiff, reduceAdd, reduceLT, XE, hk1, hk3, hk4, hk5, hk6, hk8, Int.reduceEq, decide_false, decide_true, hl0, hl1, hl2, hl3]
    try simp only [Tryz.chN]
    clear hl0 hl1 hl2 hl3
    (with_reducible repeat' (first | intro h | refine And.intro (by omega) ?_ | refine exP (by omega) ?_ | apply And.intro))
    all_goals
      congr 2
      rw [Bool.eq_iff_iff]
      simp [bareV, arity, Tryz.dec_i, *]
end Go.Proofs.YtbdmpkidcpblaaaGreat
