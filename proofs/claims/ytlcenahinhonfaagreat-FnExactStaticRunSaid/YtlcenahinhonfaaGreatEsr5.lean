/- The law FnExactStaticRun returns true whatever the input, and the input reads behind the call as before. No condition. -/
import Derived.Test.YtlcenahinhonfaaGreatEsr4
set_option maxHeartbeats 40000000
namespace Go.Proofs.YtlcenahinhonfaaGreat
open Go.Gh
open Nat (reduceEqDiff reduceLeDiff reduceAdd reduceLT)
open Int (reduceNe)
set_option maxRecDepth 20000
set_option linter.unusedSimpArgs false
set_option linter.unusedVariables false
theorem w234 (g : Gram) (r : Rul) (e : Exp) (hl : e.args.length ≤ 1048576) (ih : ∀ a ∈ e.args, Pu 190 [Gr g, Ru r, Ex a] (· = I (tyE g r a))) : Pu 234 [Gr g, Ru r, Ex e] (· = I (if (e.args.map (tyE g r)).length = 2 ∧ (e.args.map (tyE g r)).getD 0 0 = (opT e.n).1 ∧ (e.args.map (tyE g r)).getD 1 0 = (opT e.n).2.1 then (opT e.n).2.2 else 0)) := by
 refine gstart mxd i234 rfl (by simp) ?_; refine X0 ?_
 (repeat' (first | (with_reducible refine callS.eq (w198 _) ?_) | (with_reducible refine callS.eq (ih _ (gM _)) ?_) | simp (maxSteps := 9^7) only [↓ S2, S2, vIte, ↓reduceIte, reduceNe, reduceEqDiff, reduceCtorEq, reduceLeDiff, reduceAdd, reduceLT, XE] | simp only [brGen] | simp +contextual (disch := omega) only [Z2] | with_reducible first | intro h | refine And.intro (by omega) ?_ | refine exP (by omega) ?_ | apply And.intro))
 all_goals try exact oF
 ·rw [if_pos ⟨by omega, by rw [getDm (by omega)]; assumption, by rw [getDm (by omega)]; assumption⟩]
 ·rw [if_neg (fun ⟨h1, h2, h3⟩ => by rw [getDm (by omega)] at h3; contradiction)]
 ·rw [if_neg (fun ⟨h1, h2, h3⟩ => by rw [getDm (by omega)] at h2; contradiction)]
 ·rw [if_neg (fun ⟨h1, h2, h3⟩ => by omega)]
theorem w235 (g : Gram) (r : Rul) (e : Exp) (hl : e.args.length ≤ 1048576) (ih : ∀ a ∈ e.args, Pu 190 [Gr g, Ru r, Ex a] (· = I (tyE g r a))) : Pu 235 [Gr g, Ru r, Ex e] (· = I (if (e.args.map (tyE g r)).length = 3 ∧ (e.args.map (tyE g r)).getD 0 0 = 3 ∧ (e.args.map (tyE g r)).getD 1 0 = (e.args.map (tyE g r)).getD 2 0 then (e.args.map (tyE g r)).getD 1 0 else 0)) := by
 refine gstart mxd i235 rfl (by simp) ?_; refine X0 ?_
 (repeat' (first | (with_reducible refine callS.eq (ih _ (gM _)) ?_) | simp (maxSteps := 9^7) only [↓ S2, S2, vIte, ↓reduceIte, reduceNe, reduceEqDiff, reduceCtorEq, reduceLeDiff, reduceAdd, reduceLT, XE] | simp only [brGen] | simp +contextual (disch := omega) only [Z2] | with_reducible first | intro h | refine And.intro (by omega) ?_ | refine exP (by omega) ?_ | apply And.intro))
 all_goals try exact oF
 ·rw [if_pos ⟨by omega, by rw [getDm (by omega)]; assumption, by rw [getDm (by omega), getDm (by omega)]; assumption⟩, getDm (by omega)]
  rfl
 ·rw [if_neg (fun ⟨h1, h2, h3⟩ => by rw [getDm (by omega), getDm (by omega)] at h3; contradiction)]
 ·rw [if_neg (fun ⟨h1, h2, h3⟩ => by rw [getDm (by omega)] at h2; contradiction)]
 ·rw [if_neg (fun ⟨h1, h2, h3⟩ => by omega)]
theorem w190 (g : Gram) (r : Rul) (hg : smGr g) (hr : smRu r) : ∀ e : Exp, wEx e ≤ 1048576 → Pu 190 [Gr g, Ru r, Ex e] (· = I (tyE g r e)) := by
 refine Exp.indA fun e ih hw => ?_
 obtain ⟨hl, ha⟩ := args_small hw
 have hrr := hr.1
 refine gstart mxd i190 rfl (by simp) ?_; refine X0 ?_
 rw [tyE_eq]
 have hk : e.kind = 1 ∨ e.kind = 2 ∨ e.kind = 3 ∨ e.kind = 4 ∨ e.kind = 5 ∨ e.kind = 6 ∨ e.kind = 7 ∨ e.kind = 8 ∨ (¬ e.kind = 1 ∧ ¬ e.kind = 2 ∧ ¬ e.kind = 3 ∧ ¬ e.kind = 4 ∧ ¬ e.kind = 5 ∧ ¬ e.kind = 6 ∧ ¬ e.kind = 7 ∧ ¬ e.kind = 8) := by omega
 rcases hk with hk | hk | hk | hk | hk | hk | hk | hk | hk
 all_goals (repeat' (first | (with_reducible refine callS.eq (w50 _ _ _) ?_) | (with_reducible refine callS.eq (w192 _ _ hr) ?_) | (with_reducible refine callS.eq (w191 _ _ _ hg) ?_) | (with_reducible refine callS.eq (w234 g r e hl (fun a h => ih a h (ha a h))) ?_) | (with_reducible refine callS.eq (w235 g r e hl (fun a h => ih a h (ha a h))) ?_) | (with_reducible refine callS.eq (ih _ (gM _) (ha _ (gM _))) ?_) | simp (maxSteps := 9^7) only [↓ S2, S2, vIte, ↓reduceIte, reduceNe, reduceEqDiff, reduceCtorEq, reduceLeDiff, reduceAdd, reduceLT, XE, hk] | simp only [brGen] | simp +contextual (disch := omega) only [Z2] | with_reducible first | intro h | refine And.intro (by omega) ?_ | refine exP (by omega) ?_ | apply And.intro))
 all_goals try exact oF
 all_goals simp only [tyK, hk, attAt, Int.reduceEq, reduceIte, List.length_map]
 all_goals first
  | (rw [if_pos (by assumption)]; done)
  | (rw [if_neg (by assumption)]; rfl)
  | (rw [if_pos ⟨by omega, by rw [getDm (by omega)]; assumption⟩]; done)
  | (rw [if_neg (fun ⟨h1, h2⟩ => by rw [getDm (by omega)] at h2; contradiction)]; done)
  | (rw [if_neg (fun ⟨h1, h2⟩ => by omega)]; done)
  | (rw [if_neg (by simp_all)]; done)
  | (split <;> simp_all; done)
  | skip
 by_cases hc : e.args.length = 3 ∧ (e.args.map (tyE g r)).getD 0 0 = 3 ∧ (e.args.map (tyE g r)).getD 1 0 = (e.args.map (tyE g r)).getD 2 0
 ·rw [if_pos hc, if_pos hc, hc.2.2]
 ·rw [if_neg hc, if_neg hc]
theorem w169 (t : List Exp) (f : Nat) (cs : List GV) (p : Exp → Bool) (hp : ∀ x ∈ t, Pu f (Ex x :: cs) (· = B (p x))) :
  Pu 169 [ExS t, .clo f cs] (· = I (ixOf p t)) := by
 refine GCalls.lenA fun hl => ?_
 have hlen := hl.1.1
 simp only [List.length_map, maxL] at hlen
 refine gstart mxd i169 rfl (by simp) ?_; refine X0 ?_
 refine wloop mxd (ι := { i : Nat // i ≤ t.length ∧ ∀ y ∈ t.take i, p y = false }) (fun i => [(0, ExS t), (1, .clo f cs), (7, I t.length), (8, I i.1)]) (fun _ => []) (fun i => t.length - i.1) ⟨0, by simp⟩ (by simp [E2]) rfl ?_
 rintro ⟨i, hi, hn⟩
 (refine R1 (jO @isAgg_Ex (jO @geR_Ex (jO @gsize_Ex @stor_Ex))) ?_; with_reducible repeat' first|exact trivial|intro h|refine aO ?_|refine eO ?_|apply jO)
 ·refine callS.eq (hp t[i] (gM _)) ?_
  (refine R0 ?_; with_reducible repeat' first|exact trivial|intro h|refine aO ?_|refine eO ?_|apply jO)
  ·rw [ixOf_hit (by assumption) h hn]
  ·exact nx ⟨i + 1, by omega, take_step (by assumption) h hn⟩ (by simp; omega) (by simp [E2]) rfl
 ·have : i = t.length := by omega
  subst this
  rw [tL (Nat.le_refl _)] at hn
  rw [ixOf_none hn]
theorem w119 (t : List Exp) (f : Nat) (cs : List GV) (p : Exp → Bool) (hp : ∀ x ∈ t, Pu f (Ex x :: cs) (· = B (p x))) :
  Pu 119 [ExS t, .clo f cs] (· = B (t.any p)) := by
 refine gstart mxd i119 rfl (by simp) ?_; refine X0 ?_
 refine callS.eq (w169 t f cs p hp) ?_
 (refine R0 ?_; with_reducible repeat' first|exact trivial|intro h|refine aO ?_|refine eO ?_|apply jO)
 rw [← any_ix]
theorem w170 (f : Nat) (cs : List GV) (p : Exp → Bool) (ok : Exp → Prop) (hok : ∀ e, ok e → ∀ a ∈ e.args, ok a) (hp : ∀ x, ok x → Pu f (Ex x :: cs) (· = B (p x))) :
  ∀ e, ok e → Pu 170 [Ex e, .clo f cs] (· = B (allE p e)) := by
 refine Exp.indA fun e ih he => ?_
 have hq := hp e he
 rw [Ex_eq] at hq ⊢
 refine gstart mxd i170 rfl (by simp) ?_; refine X0 ?_
 refine ⟨rfl, callS.eq hq ?_⟩
 (refine R0 ?_; with_reducible repeat' first|exact trivial|intro h|refine aO ?_|refine eO ?_|apply jO)
 ·refine callS.eq (w119 e.args _ _ (fun a => !allE p a) fun a ha => ?_) ?_
  ·refine gstart mxd i215 rfl (by simp) ?_; refine X0 ?_
   (refine R1 (jO @isAgg_Ex (jO @geR_Ex (jO @gsize_Ex @stor_Ex))) ?_; with_reducible repeat' first|exact trivial|intro h|refine aO ?_|refine eO ?_|apply jO)
   refine callS.eq (ih a ha (hok e he a ha)) ?_
   (refine R0 ?_; with_reducible repeat' first|exact trivial|intro h|refine aO ?_|refine eO ?_|apply jO)
  ·(refine R0 ?_; with_reducible repeat' first|exact trivial|intro h|refine aO ?_|refine eO ?_|apply jO)
   rw [allE_eq]
   simp_all [any_not]
 ·rw [allE_eq]
  simp_all
theorem w262 (c : UInt8) : Pu 262 [.val (.int .u8 c.toNat)] (· = B (letV c)) := by
 refine gstart mxd i262 rfl (by simp) ?_; refine X0 ?_
 (refine R0 ?_; with_reducible repeat' first|exact trivial|intro h|refine aO ?_|refine eO ?_|apply jO) <;> simp_all [letV] <;> (intros; omega)
theorem w263 (c : UInt8) : Pu 263 [.val (.int .u8 c.toNat)] (· = B (digV c)) := by
 refine gstart mxd i263 rfl (by simp) ?_; refine X0 ?_
 (refine R0 ?_; with_reducible repeat' first|exact trivial|intro h|refine aO ?_|refine eO ?_|apply jO) <;> simp_all [digV] <;> (intros; omega)
theorem w296 : Pu 296 [] (· = .sl 1 (kwS.map T)) := by
 have o : Gc 296 [] [] (fun g H' => ∃ r, g = .own r 1 0 13 ∧ H' = [(r, 1, kwS.map T)]) := by
  refine gstart mxd i296 rfl (by simp) ?_; refine X0 ?_
  intro r hr
  exact ⟨r, rfl, rfl⟩
 refine o.fr ?_
 rintro g H' ⟨r, rfl, rfl⟩
 exact ⟨_, _, FR.freeze hget_new (.all hget_new (by simp [kwS]) (by simp [view, kwS])), rfl⟩
theorem w228 (l : List ByteArray) (s : ByteArray) : Pu 228 [.sl 1 (l.map T), T s] (· = B (hasS l s)) := by
 refine GCalls.lenA fun hl => ?_
 have hlen := hl.1.1
 simp only [List.length_map, maxL] at hlen
 refine gstart mxd i228 rfl (by simp) ?_; refine X0 ?_
 refine wloop mxd (ι := { i : Nat // i ≤ l.length ∧ ∀ y ∈ l.take i, decide (y = s) = false }) (fun i => [(0, .sl 1 (l.map T)), (1, T s), (5, I i.1)]) (fun _ => []) (fun i => l.length - i.1) ⟨0, by simp⟩ (by simp [E2]) rfl ?_
 rintro ⟨i, hi, hn⟩
 (refine R0 ?_; with_reducible repeat' first|exact trivial|intro h|refine aO ?_|refine eO ?_|apply jO)
 ·rw [hasS_hit (by assumption) h]
 ·exact nx ⟨i + 1, by omega, take_step (by assumption) (by simpa using h) hn⟩ (by simp; omega) (by simp [E2]) rfl
 ·have : i = l.length := by omega
  subst this
  rw [tL (Nat.le_refl _)] at hn
  rw [hasS_none hn]
theorem w264 (s : ByteArray) : Pu 264 [T s] (· = B (resV s)) := by
 refine gstart mxd i264 rfl (by simp) ?_; refine X0 ?_
 (refine R0 ?_; with_reducible repeat' first|exact trivial|intro h|refine aO ?_|refine eO ?_|apply jO)
 all_goals first | (simp_all [resV, hasS, kwS, show ∀ x, (x = s) = (s = x) from fun x => propext eq_comm]; done) | skip
theorem w275 (s : ByteArray) : Pu 275 [T s] (· = B (resV s)) := by
 refine gstart mxd i275 rfl (by simp) ?_; refine X0 ?_
 refine callS.eq w296 ?_
 (refine R0 ?_; with_reducible repeat' first|exact trivial|intro h|refine aO ?_|refine eO ?_|apply jO)
 refine callS.eq (w228 _ _) ?_
 (refine R0 ?_; with_reducible repeat' first|exact trivial|intro h|refine aO ?_|refine eO ?_|apply jO)
 rfl
theorem w274 (s : ByteArray) (hs : s.size ≤ maxLen) : Pu 274 [T s] (· = B (shp (chars s))) := by
  simp only [maxLen, size_chars] at hs
  refine gstart mxd i274 rfl (by simp) ?_; refine X0 ?_
  refine wloop mxd (ι := { i : Nat // i ≤ (chars s).length ∧ ∀ (j : Nat) (h : j < (chars s).length), j < i → letV (chars s)[j] = true ∨ (j ≠ 0 ∧ digV (chars s)[j] = true) }) (fun i => [(0, T s), (3, I i.1)]) (fun _ => []) (fun i => (chars s).length - i.1) ⟨0, by simp⟩ (by simp [E2]) rfl ?_
  rintro ⟨i, hi, hn⟩
  (refine R0 ?_; with_reducible repeat' first|exact trivial|intro h|refine aO ?_|refine eO ?_|apply jO)
  all_goals first
    | (rw [shp_bad (i := i) (by assumption) (by simp only [letV, digV, Bool.and_eq_true, decide_eq_true_eq]; omega)]; done)
    | (have hlt : i < (chars s).length := by omega
       have hg : letV (chars s)[i] = true ∨ (i ≠ 0 ∧ digV (chars s)[i] = true) := by
         simp only [letV, digV, Bool.and_eq_true, decide_eq_true_eq]
         omega
       exact nx ⟨i + 1, by omega, shp_step hlt hn hg⟩ (by simp; omega) (by simp [E2]) rfl)
    | (have : i = (chars s).length := by omega
       subst this
       rw [shp_end hn]
       simp; done)
    | skip
  all_goals have hlt : i < (chars s).length := by omega
  all_goals have hg : letV (chars s)[i] = true ∨ (i ≠ 0 ∧ digV (chars s)[i] = true) := by (simp only [letV, digV, Bool.and_eq_true, decide_eq_true_eq]; omega)
  all_goals refine nx ⟨i + 1, by omega, shp_step hlt hn hg⟩ ?_ ?_ rfl
  all_goals first | (simp only; omega) | exact (by simp [E2]) | skip
theorem w239 (s : ByteArray) (hs : s.size ≤ maxLen) : Pu 239 [T s] (· = B (nameV s)) := by
 have hs' := hs
 simp only [maxLen, size_chars] at hs'
 refine gstart mxd i239 rfl (by simp) ?_; refine X0 ?_
 refine callS.eq (w274 s hs) ?_
 (refine R0 ?_; with_reducible repeat' first|exact trivial|intro h|refine aO ?_|refine eO ?_|apply jO)
 all_goals try (refine callS.eq (w275 _) ?_; (refine R0 ?_; with_reducible repeat' first|exact trivial|intro h|refine aO ?_|refine eO ?_|apply jO))
 all_goals simp_all [nameV]
 all_goals try (intros; omega)
theorem w217 (s : ByteArray) (hs : s.size ≤ maxLen) : Pu 217 [T s] (· = B (nameV s)) := by
  simp only [maxLen, size_chars] at hs
  refine gstart mxd i217 rfl (by simp) ?_; refine X0 ?_
  refine wloop mxd (ι := { i : Nat // i ≤ (chars s).length ∧ ∀ (j : Nat) (h : j < (chars s).length), j < i → letV (chars s)[j] = true ∨ digV (chars s)[j] = true }) (fun i => [(0, T s), (5, I (chars s).length), (6, I i.1)]) (fun _ => []) (fun i => (chars s).length - i.1) ⟨0, by simp⟩ (by simp [E2]) rfl ?_
  rintro ⟨i, hi, hn⟩
  rcases nL i (chars s).length with hlt | hge
  · have hnx : letV (chars s)[i] = true ∨ digV (chars s)[i] = true → ∀ (j : Nat) (h : j < (chars s).length), j < i + 1 → letV (chars s)[j] = true ∨ digV (chars s)[j] = true := fun hg j hj hji => by
      by_cases e : j = i
      · subst e; exact hg
      · exact hn j hj (by omega)
    (repeat' (first | (with_reducible refine callS.eq (w262 _) ?_) | (with_reducible refine callS.eq (w263 _) ?_) | simp (maxSteps := 9^7) only [↓ S2, S2, vIte, ↓reduceIte, reduceNe, reduceEqDiff, reduceCtorEq, reduceLeDiff, reduceAdd, reduceLT] | simp only [brGen] | simp +contextual (disch := omega) only [Z2] | with_reducible first | intro h | refine And.intro (by omega) ?_ | refine exP (by omega) ?_ | apply And.intro))
    all_goals try exact oF
    · exact nx ⟨i + 1, by omega, hnx (.inl h)⟩ (by show (chars s).length - (i + 1) < (chars s).length - i; omega) (by simp [E2]) rfl
    · exact nx ⟨i + 1, by omega, hnx (.inr h)⟩ (by show (chars s).length - (i + 1) < (chars s).length - i; omega) (by simp [E2]) rfl
    · rw [nameV_parts, shp_no hlt (by assumption) (by assumption)]; rfl
  · have : i = (chars s).length := by omega
    subst this
    (repeat' (first | (with_reducible refine callS.eq (w111 _ _ _) ?_) | (with_reducible refine callS.eq (w262 _) ?_) | (with_reducible refine callS.eq (w264 _) ?_) | simp (maxSteps := 9^7) only [↓ S2, S2, vIte, ↓reduceIte, reduceNe, reduceEqDiff, reduceCtorEq, reduceLeDiff, reduceAdd, reduceLT] | simp only [brGen] | simp +contextual (disch := omega) only [Z2] | with_reducible first | intro h | refine And.intro (by omega) ?_ | refine exP (by omega) ?_ | apply And.intro))
    all_goals try exact oF
    all_goals first
      | (rw [nameV_parts, shp_yes (by omega) (by assumption) (fun j h => hn j h h), decide_eq_true (by omega)]; rfl)
      | (rw [nameV_parts, shp_no0 (by omega) (by assumption)]; rfl)
      | (rw [nameV_parts, decide_eq_false (show ¬ (chars s).length ≤ 8 by omega), Bool.and_false]; rfl)
      | (rcases Nat.eq_zero_or_pos (chars s).length with h0 | h0
         · rw [nameV_parts, List.eq_nil_of_length_eq_zero h0]; rfl
         · rw [nameV_parts, decide_eq_false (show ¬ (chars s).length ≤ 8 by omega), Bool.and_false]; rfl)
theorem w218 (e : Exp) (k n p t : Int) (s m : ByteArray) (a : List Exp) : Pu 218 [Ex e, .agg [I k, I n, I p, I t, T s, T m, ExS a]] (· = B (decide (e.kind = k) && (decide (e.n = n) && (decide (e.pos = p) && (decide (e.type = t) && (decide (e.sym = s) && decide (e.name = m))))))) := by
 refine gstart mxd i218 rfl (by simp) ?_; refine X0 ?_
 (repeat' (first | (with_reducible refine callS.eq (w111 _ _ _) ?_) | simp (maxSteps := 9^7) only [↓ S2, S2, vIte, ↓reduceIte, reduceNe, reduceEqDiff, reduceCtorEq, reduceLeDiff, reduceAdd, reduceLT, XE] | simp only [brGen] | simp +contextual (disch := omega) only [Z2] | with_reducible first | intro h | refine And.intro (by omega) ?_ | refine exP (by omega) ?_ | apply And.intro))
 all_goals (simp_all; done)
theorem Tryz.dec_i {p : Prop} {i : Decidable p} : (@decide p i = true) = p := propext ⟨of_decide_eq_true, decide_eq_true⟩
theorem Tryz.chN (s : ByteArray) : (chars s = chars (⟨#[]⟩ : ByteArray)) = (s = noS) := propext chars_inj
theorem w238 (e : Exp) (hl : e.args.length ≤ 1048576) : Pu 238 [Ex e] (· = B (bareV e)) := by
 have hk : e.kind = 1 ∨ e.kind = 3 ∨ e.kind = 4 ∨ e.kind = 5 ∨ e.kind = 6 ∨ e.kind = 8 ∨ (¬ e.kind = 1 ∧ ¬ e.kind = 3 ∧ ¬ e.kind = 4 ∧ ¬ e.kind = 5 ∧ ¬ e.kind = 6 ∧ ¬ e.kind = 8) := by omega
 have hl0 : ((e.args.length : Int) = 0) = (e.args.length = 0) := propext (by omega)
 have hl1 : ((e.args.length : Int) = 1) = (e.args.length = 1) := propext (by omega)
 have hl2 : ((e.args.length : Int) = 2) = (e.args.length = 2) := propext (by omega)
 have hl3 : ((e.args.length : Int) = 3) = (e.args.length = 3) := propext (by omega)
 rcases hk with hk | hk | hk | hk | hk | hk | ⟨hk1, hk3, hk4, hk5, hk6, hk8⟩
 all_goals
  refine gstart mxd i238 rfl (by simp) ?_; refine X0 ?_
  first | simp (maxSteps := 9^7) only [↓ S2, S2, vIte, ↓reduceIte, reduceNe, reduceEqDiff, reduceCtorEq, reduceLeDiff, reduceAdd, reduceLT, XE, hk, Int.reduceEq, decide_false, decide_true, hl0, hl1, hl2, hl3] | simp (maxSteps := 9^7) only [↓ S2, S2, vIte, ↓reduceIte, reduceNe, reduceEqDiff, reduceCtorEq, reduceLeDiff, reduceAdd, reduceLT, XE, hk1, hk3, hk4, hk5, hk6, hk8, Int.reduceEq, decide_false, decide_true, hl0, hl1, hl2, hl3]
  try simp only [Tryz.chN]
  clear hl0 hl1 hl2 hl3
  (with_reducible repeat' (first | intro h | refine And.intro (by omega) ?_ | refine exP (by omega) ?_ | apply And.intro))
  all_goals
   congr 2
   rw [Bool.eq_iff_iff]
   simp [bareV, arity, Tryz.dec_i, *]
end Go.Proofs.YtlcenahinhonfaaGreat
