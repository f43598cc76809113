/- The law FnSubtrees returns true whatever the input, and the input reads behind the call as before. No condition. -/
import Derived.Test.YtfpjmfjhdaccnaaFsu1
set_option linter.unusedSimpArgs false
set_option linter.unusedVariables false
set_option maxHeartbeats 40000000
namespace Go.Proofs.Ytfpjmfjhdaccnaa
open Go.Gh
open Nat (reduceEqDiff reduceLeDiff reduceAdd reduceLT)
open Int (reduceNe)
set_option maxRecDepth 20000
set_option linter.unusedSimpArgs false
set_option linter.unusedVariables false
theorem w35 (x : Sym) (hx : smSy x) : Pu 35 [Sy x] (· = Sy x) := by
 unfold smSy at hx
 refine Pure.bor ?_
 refine gstart mxd i35 rfl (by simp) ?_; simp (maxSteps := 9^7) only [↓ S2, S2, vIte, ↓reduceIte, reduceNe, reduceEqDiff, reduceCtorEq, reduceLeDiff, reduceAdd, reduceLT]
 ((try refine qI ?_); (repeat ((first | with_reducible refine qU ?_ | simp only [brGen]); try simp (maxSteps := 9^7) only [↓ S2, S2, vIte, ↓reduceIte, reduceNe, reduceEqDiff, reduceCtorEq, reduceLeDiff, reduceAdd, reduceLT])); (try simp +contextual (disch := omega) only [Z2]); (with_reducible repeat' (first | intro h | refine And.intro (by omega) ?_ | refine exP (by omega) ?_ | apply And.intro)))
 exact .agg (.cons .refl (.cons (Bor.allM (fun _ => rfl) hget_new rfl) .nil))
theorem w96 (g : Sym) (s : ByteArray) (hg : smSy g) : Pu 96 [Sy g, T s] (· = .tup [At (fAtt g.atts s), B (hAtt g.atts s)]) := by
 unfold smSy at hg
 refine gstart mxd i96 rfl (by simp) ?_; simp (maxSteps := 9^7) only [↓ S2, S2, vIte, ↓reduceIte, reduceNe, reduceEqDiff, reduceCtorEq, reduceLeDiff, reduceAdd, reduceLT]
 refine wloop mxd (ι := { i : Nat // i ≤ g.atts.length ∧ ∀ y ∈ g.atts.take i, decide (y.name = s) = false }) (fun i => [(1, T s), (2, .rop 2 (Sy g)), (4, .raw 4), (6, I i.1)]) (fun _ => []) (fun i => g.atts.length - i.1) ⟨0, by simp⟩ (by simp [E2]) rfl ?_
 rintro ⟨i, hi, hn⟩
 ((try refine qI ?_); (repeat ((first | with_reducible refine qU ?_ | simp only [brGen]); try simp (maxSteps := 9^7) only [↓ S2, S2, vIte, ↓reduceIte, reduceNe, reduceEqDiff, reduceCtorEq, reduceLeDiff, reduceAdd, reduceLT])); (try simp +contextual (disch := omega) only [Z2]); (with_reducible repeat' (first | intro h | refine And.intro (by omega) ?_ | refine exP (by omega) ?_ | apply And.intro)))
 ·subst h
  have e := find_hit (p := fun x : Att => decide (x.name = g.atts[i].name)) (xs := g.atts) (i := i) (by assumption) (by simp) hn
  simp only [fAtt, hAtt, e]
  rfl
 ·exact nx ⟨i + 1, by omega, take_step (by assumption) (by simp [*]) hn⟩ (by simp; omega) (by simp [E2]) rfl
 ·have : i = g.atts.length := by omega
  subst this
  rw [tL (Nat.le_refl _)] at hn
  have e := find_none hn
  simp only [fAtt, hAtt, e]
  rfl
theorem w92 : ∀ (e : Exp), wEx e ≤ 1048576 → Pu 92 [Ex e] (· = Ex e) := by
 refine Exp.indA fun e ih hw => ?_
 obtain ⟨hl, ha⟩ := args_small hw
 refine Pure.bor ?_
 refine gstart mxd i92 rfl (by simp) ?_; simp (maxSteps := 9^7) only [↓ S2, S2, vIte, ↓reduceIte, reduceNe, reduceEqDiff, reduceCtorEq, reduceLeDiff, reduceAdd, reduceLT]
 ((try refine qI ?_); (repeat ((first | with_reducible refine qU ?_ | simp only [brGen]); try simp (maxSteps := 9^7) only [↓ S2, S2, vIte, ↓reduceIte, reduceNe, reduceEqDiff, reduceCtorEq, reduceLeDiff, reduceAdd, reduceLT, XE])); (try simp +contextual (disch := omega) only [Z2, XE]); (with_reducible repeat' (first | intro h | refine And.intro (by omega) ?_ | refine exP (by omega) ?_ | apply And.intro)))
 rename_i r hr q
 have h0 := neH_of h
 (replace h0 := h0; simp only [VN] at h0)
 refine ploop mxd (ι := { x : Nat × Nat // x.2 ≤ e.args.length }) (fun x => [(1, .ptr r 7 0 0), (2, .raw 7), (3, .own x.1.1 7 0 x.1.2), (4, I x.1.2)]) (fun x => [(x.1.1, 7, (e.args.take x.1.2).map Ex), (r, 7, [Ex e])]) (fun x => e.args.length - x.1.2) ⟨(q, 0), by simp⟩ (by simp [E2]) (by simp [subH, hget, names, h0]) ?_
 rintro ⟨⟨q, i⟩, hi⟩ hn
 dsimp only at hi hn ⊢
 (replace hn := hn; simp only [VN] at hn)
 ((try refine qI ?_); (repeat ((first | with_reducible refine qU ?_ | simp only [brGen]); try simp (maxSteps := 9^7) only [↓ S2, S2, vIte, ↓reduceIte, reduceNe, reduceEqDiff, reduceCtorEq, reduceLeDiff, reduceAdd, reduceLT, XE, hget_c, hset_c, hdel_c, hn, t_ldf])); (try simp +contextual (disch := omega) only [Z2, XE, hget_c, hset_c, hdel_c, hn, t_ldf]); (with_reducible repeat' (first | intro h | refine And.intro (by omega) ?_ | refine exP (by omega) ?_ | apply And.intro)))
 ·refine callS.eq (ih _ (gM _) (ha _ (gM _))) ?_
  ((try refine qI ?_); (repeat ((first | with_reducible refine qU ?_ | simp only [brGen]); try simp (maxSteps := 9^7) only [↓ S2, S2, vIte, ↓reduceIte, reduceNe, reduceEqDiff, reduceCtorEq, reduceLeDiff, reduceAdd, reduceLT, XE, hget_c, hset_c, hdel_c, hn, t_ldf])); (try simp +contextual (disch := omega) only [Z2, XE, hget_c, hset_c, hdel_c, hn, t_ldf]); (with_reducible repeat' (first | intro h | refine And.intro (by omega) ?_ | refine exP (by omega) ?_ | apply And.intro)))
  rename_i q2
  have h2 := neH_of h
  (replace h2 := h2; simp only [VN] at h2)
  ((try refine qI ?_); (repeat ((first | with_reducible refine qU ?_ | simp only [brGen]); try simp (maxSteps := 9^7) only [↓ S2, S2, vIte, ↓reduceIte, reduceNe, reduceEqDiff, reduceCtorEq, reduceLeDiff, reduceAdd, reduceLT, XE, hget_c, hset_c, hdel_c, hn, h2, t_ldf])); (try simp +contextual (disch := omega) only [Z2, XE, hget_c, hset_c, hdel_c, hn, h2, t_ldf]); (with_reducible repeat' (first | intro h | refine And.intro (by omega) ?_ | refine exP (by omega) ?_ | apply And.intro)))
  ·simp; omega
  rename_i q3
  have h3 := neH_of h
  (replace h3 := h3; simp only [VN] at h3)
  rw [takeApp Ex e.args i (by assumption)]
  exact px ⟨(q3, i + 1), by omega⟩ (by simp; omega) (by simp [E2]) (by simp [subH, hget, names, h3])
 ·rw [Ex_eq e]
  refine .agg (.cons .refl (.cons .refl (.cons .refl (.cons .refl (.cons .refl (.cons .refl (.cons ?_ .nil)))))))
  have : i = e.args.length := by omega
  subst this
  rw [List.take_length]
  exact Bor.allM view_Ex hget_new rfl
theorem w75 (e : Rul) (hr : smRu e) : Pu 75 [Ru e] (· = Ru e) := by
 obtain ⟨h1, h2, h3, h4, h5⟩ := hr
 refine Pure.bor ?_
 refine gstart mxd i75 rfl (by simp) ?_; simp (maxSteps := 9^7) only [↓ S2, S2, vIte, ↓reduceIte, reduceNe, reduceEqDiff, reduceCtorEq, reduceLeDiff, reduceAdd, reduceLT]
 ((try refine qI ?_); (repeat ((first | with_reducible refine qU ?_ | simp only [brGen]); try simp (maxSteps := 9^7) only [↓ S2, S2, vIte, ↓reduceIte, reduceNe, reduceEqDiff, reduceCtorEq, reduceLeDiff, reduceAdd, reduceLT, XE])); (try simp +contextual (disch := omega) only [Z2, XE]); (with_reducible repeat' (first | intro h | refine And.intro (by omega) ?_ | refine exP (by omega) ?_ | apply And.intro)))
 rename_i ra _ rr _ r0
 have h0 := neH_of h
 (replace h0 := h0; simp only [VN] at h0)
 obtain ⟨v, ho, hv⟩ := vfresh [r0, rr]
 refine ploopF mxd (ι := { x : Nat × Nat // x.2 ≤ e.eqs.length }) (fun x => [(1, .rop 6 (Ru e)), (2, .raw 6), (3, .ptr r0 6 0 0), (4, I x.1.2)])
  (fun x => [(x.1.1, 9, (e.eqs.take x.1.2).map Qn), (r0, 6, [.agg [T e.name, T e.left, .own rr 1 0 e.right.length, B e.lit, .own x.1.1 9 0 x.1.2, .val (.slice none 0 0)]]), (rr, 1, e.right.map T)])
  (fun x => e.eqs.length - x.1.2) ⟨(v, 0), by simp⟩ (FE.virtF (i := 0) (j := 4) (sz1 := 9) hget_new rfl rfl ho hv) (by simp [E2]) ?_ ?_
 ·simp only [List.mem_cons, List.not_mem_nil, or_false, not_or] at hv
  simp [subH, hget, hset, names, h0, hv]
 rintro ⟨⟨q, i⟩, hi⟩ hn
 dsimp only at hi hn ⊢
 (replace hn := hn; simp only [VN] at hn)
 ((try refine qI ?_); (repeat ((first | with_reducible refine qU ?_ | simp only [brGen]); try simp (maxSteps := 9^7) only [↓ S2, S2, vIte, ↓reduceIte, reduceNe, reduceEqDiff, reduceCtorEq, reduceLeDiff, reduceAdd, reduceLT, XE, hget_c, hset_c, hdel_c, hn, t_ldf])); (try simp +contextual (disch := omega) only [Z2, XE, hget_c, hset_c, hdel_c, hn, t_ldf]); (with_reducible repeat' (first | intro h | refine And.intro (by omega) ?_ | refine exP (by omega) ?_ | apply And.intro)))
 ·refine callS.eq (w92 _ (h4 _ (gM _))) ?_
  ((try refine qI ?_); (repeat ((first | with_reducible refine qU ?_ | simp only [brGen]); try simp (maxSteps := 9^7) only [↓ S2, S2, vIte, ↓reduceIte, reduceNe, reduceEqDiff, reduceCtorEq, reduceLeDiff, reduceAdd, reduceLT, XE, hget_c, hset_c, hdel_c, hn, t_ldf])); (try simp +contextual (disch := omega) only [Z2, XE, hget_c, hset_c, hdel_c, hn, t_ldf]); (with_reducible repeat' (first | intro h | refine And.intro (by omega) ?_ | refine exP (by omega) ?_ | apply And.intro)))
  rename_i q2
  have h2 := neH_of h
  (replace h2 := h2; simp only [VN] at h2)
  ((try refine qI ?_); (repeat ((first | with_reducible refine qU ?_ | simp only [brGen]); try simp (maxSteps := 9^7) only [↓ S2, S2, vIte, ↓reduceIte, reduceNe, reduceEqDiff, reduceCtorEq, reduceLeDiff, reduceAdd, reduceLT, XE, hget_c, hset_c, hdel_c, hn, h2, t_ldf])); (try simp +contextual (disch := omega) only [Z2, XE, hget_c, hset_c, hdel_c, hn, h2, t_ldf]); (with_reducible repeat' (first | intro h | refine And.intro (by omega) ?_ | refine exP (by omega) ?_ | apply And.intro)))
  ·simp; omega
  rename_i q3
  have h3 := neH_of h
  (replace h3 := h3; simp only [VN] at h3)
  ((try refine qI ?_); (repeat ((first | with_reducible refine qU ?_ | simp only [brGen]); try simp (maxSteps := 9^7) only [↓ S2, S2, vIte, ↓reduceIte, reduceNe, reduceEqDiff, reduceCtorEq, reduceLeDiff, reduceAdd, reduceLT, XE, hget_c, hset_c, hdel_c, hn, h2, h3, t_ldf])); (try simp +contextual (disch := omega) only [Z2, XE, hget_c, hset_c, hdel_c, hn, h2, h3, t_ldf]); (with_reducible repeat' (first | intro h | refine And.intro (by omega) ?_ | refine exP (by omega) ?_ | apply And.intro)))
  rw [takeApp Qn e.eqs i (by assumption)]
  exact px ⟨(q3, i + 1), by omega⟩ (by simp; omega) (by simp [E2]) (by simp [subH, hget, names, h3])
 ·have : i = e.eqs.length := by omega
  subst this
  rw [List.take_length]
  obtain ⟨v, ho, hv⟩ := vfresh [q, r0, rr]
  refine ploopF mxd (ι := { x : Nat × Nat // x.2 ≤ e.cons.length }) (fun x => [(1, .rop 6 (Ru e)), (2, .raw 6), (3, .ptr r0 6 0 0), (5, I x.1.2)])
   (fun x => [(x.1.1, 16, (e.cons.take x.1.2).map Co), (q, 9, e.eqs.map Qn), (r0, 6, [.agg [T e.name, T e.left, .own rr 1 0 e.right.length, B e.lit, .own q 9 0 e.eqs.length, .own x.1.1 16 0 x.1.2]]), (rr, 1, e.right.map T)])
   (fun x => e.cons.length - x.1.2) ⟨(v, 0), by simp⟩ (FE.virtF (r := r0) (i := 0) (j := 5) (sz1 := 16) (by simp [hget, hn]; exact ⟨rfl, rfl⟩) rfl rfl ho hv) (by simp [E2]) ?_ ?_
  ·simp only [List.mem_cons, List.not_mem_nil, or_false, not_or] at hv
   simp [subH, hget, hset, names, hn, hv]
  rintro ⟨⟨p, i⟩, hi⟩ hn
  dsimp only at hi hn ⊢
  (replace hn := hn; simp only [VN] at hn)
  ((try refine qI ?_); (repeat ((first | with_reducible refine qU ?_ | simp only [brGen]); try simp (maxSteps := 9^7) only [↓ S2, S2, vIte, ↓reduceIte, reduceNe, reduceEqDiff, reduceCtorEq, reduceLeDiff, reduceAdd, reduceLT, XE, hget_c, hset_c, hdel_c, hn, t_ldf])); (try simp +contextual (disch := omega) only [Z2, XE, hget_c, hset_c, hdel_c, hn, t_ldf]); (with_reducible repeat' (first | intro h | refine And.intro (by omega) ?_ | refine exP (by omega) ?_ | apply And.intro)))
  ·refine callS.eq (w92 _ (h5 _ (gM _)).1) ?_
   ((try refine qI ?_); (repeat ((first | with_reducible refine qU ?_ | simp only [brGen]); try simp (maxSteps := 9^7) only [↓ S2, S2, vIte, ↓reduceIte, reduceNe, reduceEqDiff, reduceCtorEq, reduceLeDiff, reduceAdd, reduceLT, XE, hget_c, hset_c, hdel_c, hn, t_ldf])); (try simp +contextual (disch := omega) only [Z2, XE, hget_c, hset_c, hdel_c, hn, t_ldf]); (with_reducible repeat' (first | intro h | refine And.intro (by omega) ?_ | refine exP (by omega) ?_ | apply And.intro)))
   refine callS.eq (w92 _ (h5 _ (gM _)).2) ?_
   ((try refine qI ?_); (repeat ((first | with_reducible refine qU ?_ | simp only [brGen]); try simp (maxSteps := 9^7) only [↓ S2, S2, vIte, ↓reduceIte, reduceNe, reduceEqDiff, reduceCtorEq, reduceLeDiff, reduceAdd, reduceLT, XE, hget_c, hset_c, hdel_c, hn, t_ldf])); (try simp +contextual (disch := omega) only [Z2, XE, hget_c, hset_c, hdel_c, hn, t_ldf]); (with_reducible repeat' (first | intro h | refine And.intro (by omega) ?_ | refine exP (by omega) ?_ | apply And.intro)))
   rename_i q2
   have h2 := neH_of h
   (replace h2 := h2; simp only [VN] at h2)
   ((try refine qI ?_); (repeat ((first | with_reducible refine qU ?_ | simp only [brGen]); try simp (maxSteps := 9^7) only [↓ S2, S2, vIte, ↓reduceIte, reduceNe, reduceEqDiff, reduceCtorEq, reduceLeDiff, reduceAdd, reduceLT, XE, hget_c, hset_c, hdel_c, hn, h2, t_ldf])); (try simp +contextual (disch := omega) only [Z2, XE, hget_c, hset_c, hdel_c, hn, h2, t_ldf]); (with_reducible repeat' (first | intro h | refine And.intro (by omega) ?_ | refine exP (by omega) ?_ | apply And.intro)))
   ·simp; omega
   rename_i q3
   have h3 := neH_of h
   (replace h3 := h3; simp only [VN] at h3)
   ((try refine qI ?_); (repeat ((first | with_reducible refine qU ?_ | simp only [brGen]); try simp (maxSteps := 9^7) only [↓ S2, S2, vIte, ↓reduceIte, reduceNe, reduceEqDiff, reduceCtorEq, reduceLeDiff, reduceAdd, reduceLT, XE, hget_c, hset_c, hdel_c, hn, h2, h3, t_ldf])); (try simp +contextual (disch := omega) only [Z2, XE, hget_c, hset_c, hdel_c, hn, h2, h3, t_ldf]); (with_reducible repeat' (first | intro h | refine And.intro (by omega) ?_ | refine exP (by omega) ?_ | apply And.intro)))
   rw [takeApp Co e.cons i (by assumption)]
   exact px ⟨(q3, i + 1), by omega⟩ (by simp; omega) (by simp [E2]) (by simp [subH, hget, names, h3])
  ·have : i = e.cons.length := by omega
   subst this
   rw [List.take_length]
   exact .agg (.cons .refl (.cons .refl (.cons (Bor.allM (fun _ => rfl) (by simp [hget, hn]) rfl) (.cons .refl (.cons (Bor.allM (fun _ => rfl) (by simp [hget, hn]) rfl) (.cons (Bor.allM (fun _ => rfl) (by simp [hget, hn]) rfl) .nil))))))
theorem w46 (g : Gram) (s : ByteArray) (hg : smGr g) : Pu 46 [Gr g, T s] (· = .tup [Ru (fRul g.rules s), B (hRul g.rules s)]) := by
 refine Pure.bor ?_
 have hlen := hg.2.1
 refine gstart mxd i46 rfl (by simp) ?_; simp (maxSteps := 9^7) only [↓ S2, S2, vIte, ↓reduceIte, reduceNe, reduceEqDiff, reduceCtorEq, reduceLeDiff, reduceAdd, reduceLT]
 refine wloop mxd (ι := { i : Nat // i ≤ g.rules.length ∧ ∀ y ∈ g.rules.take i, decide (y.name = s) = false }) (fun i => [(1, T s), (2, .rop 2 (Gr g)), (4, .raw 6), (6, I i.1)]) (fun _ => []) (fun i => g.rules.length - i.1) ⟨0, by simp⟩ (by simp [E2]) rfl ?_
 rintro ⟨i, hi, hn⟩
 ((try refine qI ?_); (repeat ((first | with_reducible refine qU ?_ | simp only [brGen]); try simp (maxSteps := 9^7) only [↓ S2, S2, vIte, ↓reduceIte, reduceNe, reduceEqDiff, reduceCtorEq, reduceLeDiff, reduceAdd, reduceLT])); (try simp +contextual (disch := omega) only [Z2]); (with_reducible repeat' (first | intro h | refine And.intro (by omega) ?_ | refine exP (by omega) ?_ | apply And.intro)))
 ·subst h
  refine callS.eq (w75 g.rules[i] (hg.2.2.2 _ (gM _))) ?_
  ((try refine qI ?_); (repeat ((first | with_reducible refine qU ?_ | simp only [brGen]); try simp (maxSteps := 9^7) only [↓ S2, S2, vIte, ↓reduceIte, reduceNe, reduceEqDiff, reduceCtorEq, reduceLeDiff, reduceAdd, reduceLT])); (try simp +contextual (disch := omega) only [Z2]); (with_reducible repeat' (first | intro h | refine And.intro (by omega) ?_ | refine exP (by omega) ?_ | apply And.intro)))
  have e := find_hit (p := fun x : Rul => decide (x.name = g.rules[i].name)) (xs := g.rules) (i := i) (by assumption) (by simp) hn
  simp only [fRul, hRul, e]
  exact .refl
 ·exact nx ⟨i + 1, by omega, take_step (by assumption) (by simp [*]) hn⟩ (by simp; omega) (by simp [E2]) rfl
 ·have : i = g.rules.length := by omega
  subst this
  rw [tL (Nat.le_refl _)] at hn
  have e := find_none hn
  simp only [fRul, hRul, e]
  exact .tup (.cons (.agg (.cons .refl (.cons .refl (.cons .nil (.cons .refl (.cons .nil (.cons .nil .nil))))))) (.cons .refl .nil))
theorem w21 (g : Gram) (t : List Nod) (i : Int) (hg : smGr g) : Pu 21 [Gr g, Tr t, I i] (· = T (symN g t i)) := by
 refine GCalls.lenA fun hl => ?_
 obtain ⟨hlen, _⟩ := lenTr hl.2.1
 refine gstart mxd i21 rfl (by simp) ?_; simp (maxSteps := 9^7) only [↓ S2, S2, vIte, ↓reduceIte, reduceNe, reduceEqDiff, reduceCtorEq, reduceLeDiff, reduceAdd, reduceLT]
 by_cases h : 0 ≤ i ∧ i < t.length
 ·obtain ⟨i, rfl⟩ : ∃ k : Nat, i = k := ⟨i.toNat, by omega⟩
  have hi : i < t.length := by omega
  rw [symN_in hi]
  (repeat' (first | (with_reducible refine callS.eq (w45 _ _ _) ?_) | (with_reducible refine callS.eq (w46 _ _ hg) ?_) | simp (maxSteps := 9^7) only [↓ S2, S2, vIte, ↓reduceIte, reduceNe, reduceEqDiff, reduceCtorEq, reduceLeDiff, reduceAdd, reduceLT] | simp only [brGen] | simp +contextual (disch := omega) only [Z2] | with_reducible first | intro h | refine And.intro (by omega) ?_ | refine exP (by omega) ?_ | apply And.intro))
  all_goals first | rfl | (exfalso; omega)
 ·rw [symN_out h]
  (repeat' (first | (with_reducible refine callS.eq (w45 _ _ _) ?_) | (with_reducible refine callS.eq (w46 _ _ hg) ?_) | simp (maxSteps := 9^7) only [↓ S2, S2, vIte, ↓reduceIte, reduceNe, reduceEqDiff, reduceCtorEq, reduceLeDiff, reduceAdd, reduceLT] | simp only [brGen] | simp +contextual (disch := omega) only [Z2] | with_reducible first | intro h | refine And.intro (by omega) ?_ | refine exP (by omega) ?_ | apply And.intro))
  all_goals first | rfl | (exfalso; omega)
end Go.Proofs.Ytfpjmfjhdaccnaa
