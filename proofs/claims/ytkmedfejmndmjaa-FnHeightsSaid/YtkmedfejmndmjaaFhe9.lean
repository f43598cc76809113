/- The law FnHeights returns true whatever the input, and the input reads behind the call as before. No condition. -/
import Derived.Test.YtkmedfejmndmjaaFhe8
set_option linter.unusedSimpArgs false
set_option linter.unusedVariables false
namespace Go.Proofs.Ytkmedfejmndmjaa
open Go.Gh
set_option maxRecDepth 20000
set_option linter.unusedSimpArgs false
set_option linter.unusedVariables false
theorem v29 (k : Nat) (hk : k < 2) : Pure Try.prog 29 [I k] (· = T (ByteArray.mk #[UInt8.ofNat (48 + k)])) := by
  refine Pure.bor ?_
  have h0 : k = 0 ∨ k = 1 := by omega
  rcases h0 with rfl | rfl
  · refine gstart mxd i29 rfl (by simp) ?_; simp (maxSteps := 2000000) only [↓ S2, S2, vIte, ↓reduceIte, Int.reduceNe, Nat.reduceEqDiff, reduceCtorEq, Nat.reduceLeDiff, Nat.reduceAdd, Nat.reduceLT]
    ((try with_reducible refine mkQI ?_); (repeat ((first | (with_reducible refine mkQU ?_) | simp only [brGen]); try simp (maxSteps := 4000000) +contextual only [↓ S2, S2, vIte, ↓reduceIte, Int.reduceNe, Nat.reduceEqDiff, reduceCtorEq, Nat.reduceLeDiff, Nat.reduceAdd, Nat.reduceLT, hget_c, hset_c, hdel_c, neN, neA_cons, neA_nil, ])); (try simp +contextual (disch := omega) only [Z2, ]); (repeat' (first | (with_reducible intro h) | (with_reducible refine And.intro (by omega) ?_) | (with_reducible refine exP (by omega) ?_) | (with_reducible apply And.intro))))
    exact .refl
  · refine gstart mxd i29 rfl (by simp) ?_; simp (maxSteps := 2000000) only [↓ S2, S2, vIte, ↓reduceIte, Int.reduceNe, Nat.reduceEqDiff, reduceCtorEq, Nat.reduceLeDiff, Nat.reduceAdd, Nat.reduceLT]
    ((try with_reducible refine mkQI ?_); (repeat ((first | (with_reducible refine mkQU ?_) | simp only [brGen]); try simp (maxSteps := 4000000) +contextual only [↓ S2, S2, vIte, ↓reduceIte, Int.reduceNe, Nat.reduceEqDiff, reduceCtorEq, Nat.reduceLeDiff, Nat.reduceAdd, Nat.reduceLT, hget_c, hset_c, hdel_c, neN, neA_cons, neA_nil, Int.reduceEq, decide_false])); (try simp +contextual (disch := omega) only [Z2, Int.reduceEq, decide_false]); (repeat' (first | (with_reducible intro h) | (with_reducible refine And.intro (by omega) ?_) | (with_reducible refine exP (by omega) ?_) | (with_reducible apply And.intro))))
    refine ploop mxd (ι := Bool) (fun x => [(0, I (if x then 0 else 1)), (3, B false), (4, T (if x then ByteArray.mk #[49] else ByteArray.mk #[]))]) (fun _ => []) (fun x => if x then 0 else 1) false (by simp [E2]) (by simp [subH]) ?_
    intro b _
    have e1 : Int.tmod 1 10 = 1 := rfl
    have e2 : Int.tdiv 1 10 = 0 := rfl
    cases b
    · ((try with_reducible refine mkQI ?_); (repeat ((first | (with_reducible refine mkQU ?_) | simp only [brGen]); try simp (maxSteps := 4000000) +contextual only [↓ S2, S2, vIte, ↓reduceIte, Int.reduceNe, Nat.reduceEqDiff, reduceCtorEq, Nat.reduceLeDiff, Nat.reduceAdd, Nat.reduceLT, hget_c, hset_c, hdel_c, neN, neA_cons, neA_nil, Int.reduceEq, Int.reduceLT, decide_false, Bool.false_eq_true, if_false, e1, e2])); (try simp +contextual (disch := omega) only [Z2, Int.reduceEq, Int.reduceLT, decide_false, Bool.false_eq_true, if_false, e1, e2]); (repeat' (first | (with_reducible intro h) | (with_reducible refine And.intro (by omega) ?_) | (with_reducible refine exP (by omega) ?_) | (with_reducible apply And.intro))))
      all_goals first
        | exact Nat.le_of_ble_eq_true rfl
        | exact px true (by decide) (by simp [E2]; rfl) (by simp [subH])
    · ((try with_reducible refine mkQI ?_); (repeat ((first | (with_reducible refine mkQU ?_) | simp only [brGen]); try simp (maxSteps := 4000000) +contextual only [↓ S2, S2, vIte, ↓reduceIte, Int.reduceNe, Nat.reduceEqDiff, reduceCtorEq, Nat.reduceLeDiff, Nat.reduceAdd, Nat.reduceLT, hget_c, hset_c, hdel_c, neN, neA_cons, neA_nil, Int.reduceEq, decide_false, if_true])); (try simp +contextual (disch := omega) only [Z2, Int.reduceEq, decide_false, if_true]); (repeat' (first | (with_reducible intro h) | (with_reducible refine And.intro (by omega) ?_) | (with_reducible refine exP (by omega) ?_) | (with_reducible apply And.intro))))
      exact .refl
theorem w28 (s : ByteArray) (hs : shT s) (first plain : Bool) : Dv Try.prog 28 [T s, B first, B plain] (fun v => ∃ y, drS y ∧ v = Sy y) :=
  (o28 s hs first plain).frz fun g H1 ⟨l, r, h1, h2, h3⟩ => by
    subst h2 h3
    exact ⟨_, ⟨_, h1, rfl⟩, .agg (.cons .refl (.cons (Bor.allM (fun _ => rfl) hget_new rfl) .nil))⟩
end Go.Proofs.Ytkmedfejmndmjaa

namespace Go.Proofs.Ytkmedfejmndmjaa
open Go.Gh
set_option maxRecDepth 20000
set_option linter.unusedSimpArgs false
set_option linter.unusedVariables false
theorem y10 (rs : Nat) (X Y Z : GV) (g : Gram) (s : ByteArray) (hg : smGr g) : PuR Try.prog (syR rs g) 10 [GrO rs g X, T s] (.tup [Sy (fSym g.syms s), B (hSym g.syms s)]) := by
  refine PuR.minB ?_
  change GCalls _ _ _ [(rs, 2, g.syms.map Sy)] _
  have hlen := hg.1
  refine gstart mxd i10 rfl (by simp) ?_; simp (maxSteps := 2000000) only [↓ S2, S2, vIte, ↓reduceIte, Int.reduceNe, Nat.reduceEqDiff, reduceCtorEq, Nat.reduceLeDiff, Nat.reduceAdd, Nat.reduceLT]
  refine wloop mxd (ι := { i : Nat // i ≤ g.syms.length ∧ ∀ y ∈ g.syms.take i, decide (y.name = s) = false }) (fun i => [(1, T s), (2, .rop 2 (GrO rs g X)), (4, .raw 2), (6, I i.1)]) (fun _ => [(rs, 2, g.syms.map Sy)]) (fun i => g.syms.length - i.1) ⟨0, by simp⟩ (by simp [E2]) rfl ?_
  rintro ⟨i, hi, hn⟩
  ((try with_reducible refine mkQI ?_); (repeat ((first | (with_reducible refine mkQU ?_) | simp only [brGen]); try simp (maxSteps := 2000000) only [↓ S2, S2, vIte, ↓reduceIte, Int.reduceNe, Nat.reduceEqDiff, reduceCtorEq, Nat.reduceLeDiff, Nat.reduceAdd, Nat.reduceLT])); (try simp +contextual (disch := omega) only [Z2]); (repeat' (first | (with_reducible intro h) | (with_reducible refine And.intro (by omega) ?_) | (with_reducible refine exP (by omega) ?_) | (with_reducible apply And.intro))))
  · subst h
    refine callS.eq (w15 g.syms[i] (hg.2.2.1 _ (List.getElem_mem _))) ?_
    ((try with_reducible refine mkQI ?_); (repeat ((first | (with_reducible refine mkQU ?_) | simp only [brGen]); try simp (maxSteps := 2000000) only [↓ S2, S2, vIte, ↓reduceIte, Int.reduceNe, Nat.reduceEqDiff, reduceCtorEq, Nat.reduceLeDiff, Nat.reduceAdd, Nat.reduceLT])); (try simp +contextual (disch := omega) only [Z2]); (repeat' (first | (with_reducible intro h) | (with_reducible refine And.intro (by omega) ?_) | (with_reducible refine exP (by omega) ?_) | (with_reducible apply And.intro))))
    have e := find_hit (p := fun x : Sym => decide (x.name = g.syms[i].name)) (xs := g.syms) (i := i) (by assumption) (by simp) hn
    simp only [fSym, hSym, e]
    exact ⟨[], .refl, (by repeat' (first | exact trivial | (refine And.intro (by simp only [hget_c, *, if_true, if_false]; try rfl) (And.intro (by simp [names_cons, names_nil, *]) ?_))))⟩
  · exact nx ⟨i + 1, by omega, take_step (by assumption) (by simp [*]) hn⟩ (by simp; omega) (by simp [E2]) rfl
  · have : i = g.syms.length := by omega
    subst this
    rw [List.take_of_length_le (Nat.le_refl _)] at hn
    have e := find_none hn
    simp only [fSym, hSym, e]
    exact ⟨[], .tup (.cons (.agg (.cons .refl (.cons .nil .nil))) (.cons .refl .nil)), (by repeat' (first | exact trivial | (refine And.intro (by simp only [hget_c, *, if_true, if_false]; try rfl) (And.intro (by simp [names_cons, names_nil, *]) ?_))))⟩
theorem x39 (X Y Z : GV) (r : Rul) (p : Int) (hr : smRu r) : Pure Try.prog 39 [RuX r Y Z, I p] (· = T (symAt r p)) := by
  have hl := hr.1
  refine gstart mxd i39 rfl (by simp) ?_; simp (maxSteps := 2000000) only [↓ S2, S2, vIte, ↓reduceIte, Int.reduceNe, Nat.reduceEqDiff, reduceCtorEq, Nat.reduceLeDiff, Nat.reduceAdd, Nat.reduceLT]
  ((try with_reducible refine mkQI ?_); (repeat ((first | (with_reducible refine mkQU ?_) | simp only [brGen]); try simp (maxSteps := 2000000) only [↓ S2, S2, vIte, ↓reduceIte, Int.reduceNe, Nat.reduceEqDiff, reduceCtorEq, Nat.reduceLeDiff, Nat.reduceAdd, Nat.reduceLT])); (try simp +contextual (disch := omega) only [Z2]); (repeat' (first | (with_reducible intro h) | (with_reducible refine And.intro (by omega) ?_) | (with_reducible refine exP (by omega) ?_) | (with_reducible apply And.intro))))
  · simp [symAt, h]
  refine callS.eq (w51 _ _ _) ?_
  ((try with_reducible refine mkQI ?_); (repeat ((first | (with_reducible refine mkQU ?_) | simp only [brGen]); try simp (maxSteps := 2000000) only [↓ S2, S2, vIte, ↓reduceIte, Int.reduceNe, Nat.reduceEqDiff, reduceCtorEq, Nat.reduceLeDiff, Nat.reduceAdd, Nat.reduceLT])); (try simp +contextual (disch := omega) only [Z2]); (repeat' (first | (with_reducible intro h) | (with_reducible refine And.intro (by omega) ?_) | (with_reducible refine exP (by omega) ?_) | (with_reducible apply And.intro))))
  · simp only [symAt, if_neg (show ¬ p = 0 from by assumption), if_pos h, getD_lt (show (p - 1).toNat < r.right.length by omega)]
  · simp only [symAt, if_neg (show ¬ p = 0 from by assumption), if_neg h]; rfl
set_option maxHeartbeats 4000000 in
theorem y38 (rs : Nat) (X Y Z : GV) (g : Gram) (r : Rul) (hg : smGr g) (hr : smRu r) (hr3 : r.right.length ≤ 3) : PuR Try.prog (syR rs g) 38 [GrO rs g X, RuX r Y Z] (OcS (reqO g r)) := by
  refine PuR.minB ?_
  change GCalls _ _ _ [(rs, 2, g.syms.map Sy)] _
  refine gstart mxd i38 rfl (by simp) ?_; simp (maxSteps := 2000000) only [↓ S2, S2, vIte, ↓reduceIte, Int.reduceNe, Nat.reduceEqDiff, reduceCtorEq, Nat.reduceLeDiff, Nat.reduceAdd, Nat.reduceLT]
  ((try with_reducible refine mkQI ?_); (repeat ((first | (with_reducible refine mkQU ?_) | simp only [brGen]); try simp (maxSteps := 4000000) +contextual only [↓ S2, S2, vIte, ↓reduceIte, Int.reduceNe, Nat.reduceEqDiff, reduceCtorEq, Nat.reduceLeDiff, Nat.reduceAdd, Nat.reduceLT, hget_c, hset_c, hdel_c, neN, neA_cons, neA_nil, ])); (try simp +contextual (disch := omega) only [Z2, ]); (repeat' (first | (with_reducible intro h) | (with_reducible refine And.intro (by omega) ?_) | (with_reducible refine exP (by omega) ?_) | (with_reducible apply And.intro))))
  rename_i r0
  refine ploop mxd (ι := { x : Nat × Nat // x.2 ≤ r.right.length + 1 }) (fun x => [(2, .rop 2 (GrO rs g X)), (3, .rop 6 (RuX r Y Z)), (5, .own x.1.1 2 0 (reqA g r x.1.2).length), (6, I x.1.2)]) (fun x => [(x.1.1, 2, (reqA g r x.1.2).map Occ), (rs, 2, g.syms.map Sy)]) (fun x => r.right.length + 1 - x.1.2) ⟨(r0, 0), by simp⟩ (by simp [E2, reqA]) (by simp [subH, hget, names, reqA, *]) ?_
  rintro ⟨⟨q, i⟩, hi⟩ hn
  dsimp only at hi hn ⊢
  have hnn := hn
  (replace hnn := hnn; simp only [neH_cons, neH_nil, neA_cons, neA_nil, and_true, true_and] at hnn)
  rcases Nat.lt_or_ge i (r.right.length + 1) with hlt | hge
  · ((try with_reducible refine mkQI ?_); (repeat ((first | (with_reducible refine mkQU ?_) | simp only [brGen]); try simp (maxSteps := 4000000) +contextual only [↓ S2, S2, vIte, ↓reduceIte, Int.reduceNe, Nat.reduceEqDiff, reduceCtorEq, Nat.reduceLeDiff, Nat.reduceAdd, Nat.reduceLT, hget_c, hset_c, hdel_c, neN, neA_cons, neA_nil, ])); (try simp +contextual (disch := omega) only [Z2, ]); (repeat' (first | (with_reducible intro h) | (with_reducible refine And.intro (by omega) ?_) | (with_reducible refine exP (by omega) ?_) | (with_reducible apply And.intro))))
    all_goals try (exfalso; omega)
    refine callS.eq (x39 X Y Z r i hr) ?_
    ((try with_reducible refine mkQI ?_); (repeat ((first | (with_reducible refine mkQU ?_) | simp only [brGen]); try simp (maxSteps := 4000000) +contextual only [↓ S2, S2, vIte, ↓reduceIte, Int.reduceNe, Nat.reduceEqDiff, reduceCtorEq, Nat.reduceLeDiff, Nat.reduceAdd, Nat.reduceLT, hget_c, hset_c, hdel_c, neN, neA_cons, neA_nil, ])); (try simp +contextual (disch := omega) only [Z2, ]); (repeat' (first | (with_reducible intro h) | (with_reducible refine And.intro (by omega) ?_) | (with_reducible refine exP (by omega) ?_) | (with_reducible apply And.intro))))
    refine callS.eqR (y10 rs X Y Z g _ hg) (by simp only [hget_c, hnn, if_true, if_false]) ?_
    have hbl := reqA_len hg r i
    have hst : reqA g r (i + 1) = reqA g r i ++ ((((fSym g.syms (symAt r i)).atts.filter fun a => decide (a.mode = if i = 0 then 2 else 1)).map fun a => ((i : Int), a.name))) := rfl
    have hsm := smSy_f hg (symAt r i)
    unfold smSy at hsm
    generalize fSym g.syms (symAt r i) = s at *
    by_cases h0 : i = 0
    · have hi1 : ((i : Int) = 0) = True := eq_true (by omega)
      rw [if_pos h0] at hst
      ((try with_reducible refine mkQI ?_); (repeat ((first | (with_reducible refine mkQU ?_) | simp only [brGen]); try simp (maxSteps := 4000000) +contextual only [↓ S2, S2, vIte, ↓reduceIte, Int.reduceNe, Nat.reduceEqDiff, reduceCtorEq, Nat.reduceLeDiff, Nat.reduceAdd, Nat.reduceLT, hget_c, hset_c, hdel_c, neN, neA_cons, neA_nil, hi1, decide_true])); (try simp +contextual (disch := omega) only [Z2, hi1, decide_true]); (repeat' (first | (with_reducible intro h) | (with_reducible refine And.intro (by omega) ?_) | (with_reducible refine exP (by omega) ?_) | (with_reducible apply And.intro))))
      obtain ⟨F, hF⟩ : ∃ F : Nat → List Oc, ∀ k, F k = reqA g r i ++ (((s.atts.take k).filter fun a => decide (a.mode = 2)).map fun a => ((i : Int), a.name)) := ⟨_, fun _ => rfl⟩
      have hF0 : F 0 = reqA g r i := by rw [hF]; simp
      have hFe : F s.atts.length = reqA g r (i + 1) := by rw [hF, hst, List.take_length]
      have hFs : ∀ k (hk : k < s.atts.length), F (k + 1) = F k ++ (if s.atts[k].mode = 2 then [((i : Int), s.atts[k].name)] else []) := fun k hk => by
        rw [hF, hF, reqP_take (g := g) (r := r) (pos := i) (m := 2) (by simp [h0]) s.atts hk, List.append_assoc]
      have hFl : ∀ k, (F k).length ≤ (reqA g r i).length + s.atts.length := fun k => by
        have h1 := List.length_filter_le (fun a : Att => decide (a.mode = 2)) (s.atts.take k)
        rw [List.length_take] at h1
        rw [hF, List.length_append, List.length_map]; omega
      clear hF
      refine ploop mxd (ι := { x : Nat × Nat // x.2 ≤ s.atts.length }) (fun x => [(2, .rop 2 (GrO rs g X)), (3, .rop 6 (RuX r Y Z)), (5, .own x.1.1 2 0 (F x.1.2).length), (6, I i), (7, .rop 2 (Sy s)), (9, I 2), (10, I x.1.2)]) (fun x => [(x.1.1, 2, (F x.1.2).map Occ), (rs, 2, g.syms.map Sy)]) (fun x => s.atts.length - x.1.2) ⟨(q, 0), by simp⟩ (by simp [E2, hF0]) (by simp [subH, hget, names, hF0, *]) ?_
      rintro ⟨⟨q, k⟩, hk⟩ hn
      dsimp only at hk hn ⊢
      have hnn := hn
      (replace hnn := hnn; simp only [neH_cons, neH_nil, neA_cons, neA_nil, and_true, true_and] at hnn)
      have hl1 := hFl k
      rcases Nat.lt_or_ge k s.atts.length with hlt2 | hge2
      · have e := hFs k hlt2
        rcases Decidable.em (s.atts[k].mode = 2) with hm | hm
        · rw [if_pos hm] at e
          have el : (F (k + 1)).length = (F k).length + 1 := by rw [e]; simp
          ((try with_reducible refine mkQI ?_); (repeat ((first | (with_reducible refine mkQU ?_) | simp only [brGen]); try simp (maxSteps := 4000000) +contextual only [↓ S2, S2, vIte, ↓reduceIte, Int.reduceNe, Nat.reduceEqDiff, reduceCtorEq, Nat.reduceLeDiff, Nat.reduceAdd, Nat.reduceLT, hget_c, hset_c, hdel_c, neN, neA_cons, neA_nil, hm, List.length_append, List.length_singleton, List.length_map, List.length_take, maxLv])); (try simp +contextual (disch := omega) only [Z2, hm, List.length_append, List.length_singleton, List.length_map, List.length_take, maxLv]); (repeat' (first | (with_reducible intro h) | (with_reducible refine And.intro (by omega) ?_) | (with_reducible refine exP (by omega) ?_) | (with_reducible apply And.intro))))
          all_goals try (exfalso; omega)
          rename_i q2 _ q3
          refine px ⟨(q3, k + 1), by omega⟩ (by simp <;> omega) (by simp [E2, el]) ?_
          show subH _ [(q3, 2, (F (k + 1)).map Occ), (rs, 2, g.syms.map Sy)]
          rw [e, List.map_append, List.take_of_length_le (by simp)]
          exact (by repeat' (first | exact trivial | (refine And.intro (by simp only [hget_c, *, if_true, if_false]; try rfl) (And.intro (by simp [names_cons, names_nil, *]) ?_))))
        · rw [if_neg hm, List.append_nil] at e
          ((try with_reducible refine mkQI ?_); (repeat ((first | (with_reducible refine mkQU ?_) | simp only [brGen]); try simp (maxSteps := 4000000) +contextual only [↓ S2, S2, vIte, ↓reduceIte, Int.reduceNe, Nat.reduceEqDiff, reduceCtorEq, Nat.reduceLeDiff, Nat.reduceAdd, Nat.reduceLT, hget_c, hset_c, hdel_c, neN, neA_cons, neA_nil, hm])); (try simp +contextual (disch := omega) only [Z2, hm]); (repeat' (first | (with_reducible intro h) | (with_reducible refine And.intro (by omega) ?_) | (with_reducible refine exP (by omega) ?_) | (with_reducible apply And.intro))))
          all_goals try (exfalso; omega)
          refine px ⟨(q, k + 1), by omega⟩ (by simp <;> omega) (by simp [E2, e]) ?_
          show subH _ [(q, 2, (F (k + 1)).map Occ), (rs, 2, g.syms.map Sy)]
          rw [e]
          exact (by repeat' (first | exact trivial | (refine And.intro (by simp only [hget_c, *, if_true, if_false]; try rfl) (And.intro (by simp [names_cons, names_nil, *]) ?_))))
      · obtain rfl : k = s.atts.length := by omega
        rw [hFe]
        ((try with_reducible refine mkQI ?_); (repeat ((first | (with_reducible refine mkQU ?_) | simp only [brGen]); try simp (maxSteps := 4000000) +contextual only [↓ S2, S2, vIte, ↓reduceIte, Int.reduceNe, Nat.reduceEqDiff, reduceCtorEq, Nat.reduceLeDiff, Nat.reduceAdd, Nat.reduceLT, hget_c, hset_c, hdel_c, neN, neA_cons, neA_nil, ])); (try simp +contextual (disch := omega) only [Z2, ]); (repeat' (first | (with_reducible intro h) | (with_reducible refine And.intro (by omega) ?_) | (with_reducible refine exP (by omega) ?_) | (with_reducible apply And.intro))))
        all_goals try (exfalso; omega)
        exact px ⟨(q, i + 1), by omega⟩ (by simp <;> omega) (by simp [E2]) (by repeat' (first | exact trivial | (refine And.intro (by simp only [hget_c, *, if_true, if_false]; try rfl) (And.intro (by simp [names_cons, names_nil, *]) ?_))))
    · have hi1 : ((i : Int) = 0) = False := eq_false (by omega)
      rw [if_neg h0] at hst
      ((try with_reducible refine mkQI ?_); (repeat ((first | (with_reducible refine mkQU ?_) | simp only [brGen]); try simp (maxSteps := 4000000) +contextual only [↓ S2, S2, vIte, ↓reduceIte, Int.reduceNe, Nat.reduceEqDiff, reduceCtorEq, Nat.reduceLeDiff, Nat.reduceAdd, Nat.reduceLT, hget_c, hset_c, hdel_c, neN, neA_cons, neA_nil, hi1, decide_false])); (try simp +contextual (disch := omega) only [Z2, hi1, decide_false]); (repeat' (first | (with_reducible intro h) | (with_reducible refine And.intro (by omega) ?_) | (with_reducible refine exP (by omega) ?_) | (with_reducible apply And.intro))))
      obtain ⟨F, hF⟩ : ∃ F : Nat → List Oc, ∀ k, F k = reqA g r i ++ (((s.atts.take k).filter fun a => decide (a.mode = 1)).map fun a => ((i : Int), a.name)) := ⟨_, fun _ => rfl⟩
      have hF0 : F 0 = reqA g r i := by rw [hF]; simp
      have hFe : F s.atts.length = reqA g r (i + 1) := by rw [hF, hst, List.take_length]
      have hFs : ∀ k (hk : k < s.atts.length), F (k + 1) = F k ++ (if s.atts[k].mode = 1 then [((i : Int), s.atts[k].name)] else []) := fun k hk => by
        rw [hF, hF, reqP_take (g := g) (r := r) (pos := i) (m := 1) (by simp [h0]) s.atts hk, List.append_assoc]
      have hFl : ∀ k, (F k).length ≤ (reqA g r i).length + s.atts.length := fun k => by
        have h1 := List.length_filter_le (fun a : Att => decide (a.mode = 1)) (s.atts.take k)
        rw [List.length_take] at h1
        rw [hF, List.length_append, List.length_map]; omega
      clear hF
      refine ploop mxd (ι := { x : Nat × Nat // x.2 ≤ s.atts.length }) (fun x => [(2, .rop 2 (GrO rs g X)), (3, .rop 6 (RuX r Y Z)), (5, .own x.1.1 2 0 (F x.1.2).length), (6, I i), (7, .rop 2 (Sy s)), (9, I 1), (10, I x.1.2)]) (fun x => [(x.1.1, 2, (F x.1.2).map Occ), (rs, 2, g.syms.map Sy)]) (fun x => s.atts.length - x.1.2) ⟨(q, 0), by simp⟩ (by simp [E2, hF0]) (by simp [subH, hget, names, hF0, *]) ?_
      rintro ⟨⟨q, k⟩, hk⟩ hn
      dsimp only at hk hn ⊢
      have hnn := hn
      (replace hnn := hnn; simp only [neH_cons, neH_nil, neA_cons, neA_nil, and_true, true_and] at hnn)
      have hl1 := hFl k
      rcases Nat.lt_or_ge k s.atts.length with hlt2 | hge2
      · have e := hFs k hlt2
        rcases Decidable.em (s.atts[k].mode = 1) with hm | hm
        · rw [if_pos hm] at e
          have el : (F (k + 1)).length = (F k).length + 1 := by rw [e]; simp
          ((try with_reducible refine mkQI ?_); (repeat ((first | (with_reducible refine mkQU ?_) | simp only [brGen]); try simp (maxSteps := 4000000) +contextual only [↓ S2, S2, vIte, ↓reduceIte, Int.reduceNe, Nat.reduceEqDiff, reduceCtorEq, Nat.reduceLeDiff, Nat.reduceAdd, Nat.reduceLT, hget_c, hset_c, hdel_c, neN, neA_cons, neA_nil, hm, List.length_append, List.length_singleton, List.length_map, List.length_take, maxLv])); (try simp +contextual (disch := omega) only [Z2, hm, List.length_append, List.length_singleton, List.length_map, List.length_take, maxLv]); (repeat' (first | (with_reducible intro h) | (with_reducible refine And.intro (by omega) ?_) | (with_reducible refine exP (by omega) ?_) | (with_reducible apply And.intro))))
          all_goals try (exfalso; omega)
          rename_i q2 _ q3
          refine px ⟨(q3, k + 1), by omega⟩ (by simp <;> omega) (by simp [E2, el]) ?_
          show subH _ [(q3, 2, (F (k + 1)).map Occ), (rs, 2, g.syms.map Sy)]
          rw [e, List.map_append, List.take_of_length_le (by simp)]
          exact (by repeat' (first | exact trivial | (refine And.intro (by simp only [hget_c, *, if_true, if_false]; try rfl) (And.intro (by simp [names_cons, names_nil, *]) ?_))))
        · rw [if_neg hm, List.append_nil] at e
          ((try with_reducible refine mkQI ?_); (repeat ((first | (with_reducible refine mkQU ?_) | simp only [brGen]); try simp (maxSteps := 4000000) +contextual only [↓ S2, S2, vIte, ↓reduceIte, Int.reduceNe, Nat.reduceEqDiff, reduceCtorEq, Nat.reduceLeDiff, Nat.reduceAdd, Nat.reduceLT, hget_c, hset_c, hdel_c, neN, neA_cons, neA_nil, hm])); (try simp +contextual (disch := omega) only [Z2, hm]); (repeat' (first | (with_reducible intro h) | (with_reducible refine And.intro (by omega) ?_) | (with_reducible refine exP (by omega) ?_) | (with_reducible apply And.intro))))
          all_goals try (exfalso; omega)
          refine px ⟨(q, k + 1), by omega⟩ (by simp <;> omega) (by simp [E2, e]) ?_
          show subH _ [(q, 2, (F (k + 1)).map Occ), (rs, 2, g.syms.map Sy)]
          rw [e]
          exact (by repeat' (first | exact trivial | (refine And.intro (by simp only [hget_c, *, if_true, if_false]; try rfl) (And.intro (by simp [names_cons, names_nil, *]) ?_))))
      · obtain rfl : k = s.atts.length := by omega
        rw [hFe]
        ((try with_reducible refine mkQI ?_); (repeat ((first | (with_reducible refine mkQU ?_) | simp only [brGen]); try simp (maxSteps := 4000000) +contextual only [↓ S2, S2, vIte, ↓reduceIte, Int.reduceNe, Nat.reduceEqDiff, reduceCtorEq, Nat.reduceLeDiff, Nat.reduceAdd, Nat.reduceLT, hget_c, hset_c, hdel_c, neN, neA_cons, neA_nil, ])); (try simp +contextual (disch := omega) only [Z2, ]); (repeat' (first | (with_reducible intro h) | (with_reducible refine And.intro (by omega) ?_) | (with_reducible refine exP (by omega) ?_) | (with_reducible apply And.intro))))
        all_goals try (exfalso; omega)
        exact px ⟨(q, i + 1), by omega⟩ (by simp <;> omega) (by simp [E2]) (by repeat' (first | exact trivial | (refine And.intro (by simp only [hget_c, *, if_true, if_false]; try rfl) (And.intro (by simp [names_cons, names_nil, *]) ?_))))
  · obtain rfl : i = r.right.length + 1 := by omega
    ((try with_reducible refine mkQI ?_); (repeat ((first | (with_reducible refine mkQU ?_) | simp only [brGen]); try simp (maxSteps := 4000000) +contextual only [↓ S2, S2, vIte, ↓reduceIte, Int.reduceNe, Nat.reduceEqDiff, reduceCtorEq, Nat.reduceLeDiff, Nat.reduceAdd, Nat.reduceLT, hget_c, hset_c, hdel_c, neN, neA_cons, neA_nil, ])); (try simp +contextual (disch := omega) only [Z2, ]); (repeat' (first | (with_reducible intro h) | (with_reducible refine And.intro (by omega) ?_) | (with_reducible refine exP (by omega) ?_) | (with_reducible apply And.intro))))
    all_goals try (exfalso; omega)
    exact ⟨[(q, 2, _)], bor_OcS hget_new rfl, (by repeat' (first | exact trivial | (refine And.intro (by simp only [hget_c, *, if_true, if_false]; try rfl) (And.intro (by simp [names_cons, names_nil, *]) ?_))))⟩
end Go.Proofs.Ytkmedfejmndmjaa

