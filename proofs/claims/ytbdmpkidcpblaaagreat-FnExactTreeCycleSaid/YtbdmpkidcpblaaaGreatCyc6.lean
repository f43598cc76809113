/- The law FnExactTreeCycle returns true whatever the input, and the input reads behind the call as before. No condition. -/
import Derived.Test.YtbdmpkidcpblaaaGreatCyc5
namespace Go.Proofs.YtbdmpkidcpblaaaGreat
open Go.Gh
set_option maxRecDepth 20000
set_option linter.unusedSimpArgs false
set_option linter.unusedVariables false
theorem w136 (g : Gram) (t : List Nod) (hg : smGr g) (hl : t.length ≤ 1048576) (hk : ∀ x ∈ t, x.kids.length ≤ 1048576) : Pure Tryz.prog 136 [Gr g, Tr t] (· = B (treeOf g t (symN g t 0))) := by
  refine gstart mxd i136 rfl (by simp) ?_; simp (maxSteps := 2000000) only [↓ S2, S2, vIte, ↓reduceIte, Int.reduceNe, Nat.reduceEqDiff, reduceCtorEq, Nat.reduceLeDiff, Nat.reduceAdd, Nat.reduceLT]
  (repeat' (first | (with_reducible refine callS.eq (w137 g t 0 hg) ?_) | (with_reducible refine callS.eq (w200 g t _ hg hl hk) ?_) | simp (maxSteps := 2000000) only [↓ S2, S2, vIte, ↓reduceIte, Int.reduceNe, Nat.reduceEqDiff, reduceCtorEq, Nat.reduceLeDiff, Nat.reduceAdd, Nat.reduceLT, maxLv] | simp only [brGen] | simp +contextual (disch := omega) only [Z2] | (with_reducible intro h) | (with_reducible refine And.intro (by omega) ?_) | (with_reducible refine exP (by omega) ?_) | (with_reducible apply And.intro)))
theorem o57 (g : Gram) (t : List Nod) (hg : smGr g) (hl : t.length ≤ 1048576) (hk : ∀ x ∈ t, x.kids.length ≤ 1048576) (H : GH) : GCalls Tryz.prog 57 [Gr g, Tr t] H (fun v H' => ∃ H1, (∃ r, v = .own r 2 0 (insL g t).length ∧ H1 = [(r, 2, (insL g t).map Ins)]) ∧ H' = H1 ++ H) := by
  refine gstart mxd i57 rfl (by simp) ?_; simp (maxSteps := 2000000) only [↓ S2, S2, vIte, ↓reduceIte, Int.reduceNe, Nat.reduceEqDiff, reduceCtorEq, Nat.reduceLeDiff, Nat.reduceAdd, Nat.reduceLT]
  ((try with_reducible refine mkQI ?_); (repeat ((first | (with_reducible refine mkQU ?_) | simp only [brGen]); try simp (maxSteps := 4000000) +contextual only [↓ S2, S2, vIte, ↓reduceIte, Int.reduceNe, Nat.reduceEqDiff, reduceCtorEq, Nat.reduceLeDiff, Nat.reduceAdd, Nat.reduceLT, hget_c, hset_c, hdel_c, neN, neA_cons, neA_nil, ])); (try simp +contextual (disch := omega) only [Z2, ]); (repeat' (first | (with_reducible intro h) | (with_reducible refine And.intro (by omega) ?_) | (with_reducible refine exP (by omega) ?_) | (with_reducible apply And.intro))))
  rename_i r0
  refine callS.eq (w115 g t 0 hg) ?_
  ((try with_reducible refine mkQI ?_); (repeat ((first | (with_reducible refine mkQU ?_) | simp only [brGen]); try simp (maxSteps := 4000000) +contextual only [↓ S2, S2, vIte, ↓reduceIte, Int.reduceNe, Nat.reduceEqDiff, reduceCtorEq, Nat.reduceLeDiff, Nat.reduceAdd, Nat.reduceLT, hget_c, hset_c, hdel_c, neN, neA_cons, neA_nil, ])); (try simp +contextual (disch := omega) only [Z2, ]); (repeat' (first | (with_reducible intro h) | (with_reducible refine And.intro (by omega) ?_) | (with_reducible refine exP (by omega) ?_) | (with_reducible apply And.intro))))
  refine callS.eq (w114 g t _ hg hl hk) ?_
  have hil := insL_len hg t
  by_cases ht : treeOf g t (symN g t 0) = true
  · have htl := treeOf_len ht
    have hia := insA_len hg t
    rw [insL, if_pos ht] at hil ⊢
    ((try with_reducible refine mkQI ?_); (repeat ((first | (with_reducible refine mkQU ?_) | simp only [brGen]); try simp (maxSteps := 4000000) +contextual only [↓ S2, S2, vIte, ↓reduceIte, Int.reduceNe, Nat.reduceEqDiff, reduceCtorEq, Nat.reduceLeDiff, Nat.reduceAdd, Nat.reduceLT, hget_c, hset_c, hdel_c, neN, neA_cons, neA_nil, ht])); (try simp +contextual (disch := omega) only [Z2, ht]); (repeat' (first | (with_reducible intro h) | (with_reducible refine And.intro (by omega) ?_) | (with_reducible refine exP (by omega) ?_) | (with_reducible apply And.intro))))
    refine wloopN mxd (ι := { y : Nat × Nat // y.2 ≤ t.length }) (fun y => [(2, .rop 2 (Gr g)), (3, .rop 1 (Tr t)), (5, .own y.1.1 2 0 (insA g t y.1.2).length), (6, I y.1.2)]) (fun y => (y.1.1, 2, (insA g t y.1.2).map Ins) :: H) (fun y => t.length - y.1.2) ⟨(r0, 0), by simp⟩ (by simp [E2, insA]) (by simp [insA]) ?_
    rintro ⟨⟨q, i⟩, hi⟩ hn
    dsimp only at hi hn ⊢
    replace hn := neH_of hn
    (replace hn := hn; simp only [neH_cons, neH_nil, neA_cons, neA_nil, and_true, true_and] at hn)
    rcases Nat.lt_or_ge i t.length with hlt | hge
    · ((try with_reducible refine mkQI ?_); (repeat ((first | (with_reducible refine mkQU ?_) | simp only [brGen]); try simp (maxSteps := 4000000) +contextual only [↓ S2, S2, vIte, ↓reduceIte, Int.reduceNe, Nat.reduceEqDiff, reduceCtorEq, Nat.reduceLeDiff, Nat.reduceAdd, Nat.reduceLT, hget_c, hset_c, hdel_c, neN, neA_cons, neA_nil, hn])); (try simp +contextual (disch := omega) only [Z2, hn]); (repeat' (first | (with_reducible intro h) | (with_reducible refine And.intro (by omega) ?_) | (with_reducible refine exP (by omega) ?_) | (with_reducible apply And.intro))))
      all_goals try (exfalso; omega)
      refine callS.eq (w115 g t i hg) ?_
      ((try with_reducible refine mkQI ?_); (repeat ((first | (with_reducible refine mkQU ?_) | simp only [brGen]); try simp (maxSteps := 4000000) +contextual only [↓ S2, S2, vIte, ↓reduceIte, Int.reduceNe, Nat.reduceEqDiff, reduceCtorEq, Nat.reduceLeDiff, Nat.reduceAdd, Nat.reduceLT, hget_c, hset_c, hdel_c, neN, neA_cons, neA_nil, hn])); (try simp +contextual (disch := omega) only [Z2, hn]); (repeat' (first | (with_reducible intro h) | (with_reducible refine And.intro (by omega) ?_) | (with_reducible refine exP (by omega) ?_) | (with_reducible apply And.intro))))
      refine callS.eq (w91 g _ hg) ?_
      ((try with_reducible refine mkQI ?_); (repeat ((first | (with_reducible refine mkQU ?_) | simp only [brGen]); try simp (maxSteps := 4000000) +contextual only [↓ S2, S2, vIte, ↓reduceIte, Int.reduceNe, Nat.reduceEqDiff, reduceCtorEq, Nat.reduceLeDiff, Nat.reduceAdd, Nat.reduceLT, hget_c, hset_c, hdel_c, neN, neA_cons, neA_nil, hn])); (try simp +contextual (disch := omega) only [Z2, hn]); (repeat' (first | (with_reducible intro h) | (with_reducible refine And.intro (by omega) ?_) | (with_reducible refine exP (by omega) ?_) | (with_reducible apply And.intro))))
      have hsl : (fSym g.syms (symN g t i)).atts.length ≤ 1048576 := smSy_f hg _
      have hik : insK g t i = (fSym g.syms (symN g t i)).atts.map fun a => (t[i].id, a.name) := by simp only [insK]; rw [getD_lt hlt]
      have hai := hia i
      generalize fSym g.syms (symN g t i) = s at *
      refine wloopN mxd (ι := { y : Nat × Nat // y.2 ≤ s.atts.length }) (fun y => [(2, .rop 2 (Gr g)), (3, .rop 1 (Tr t)), (5, .own y.1.1 2 0 ((insA g t i).length + y.1.2)), (6, I i), (7, .rop 2 (Sy s)), (9, I y.1.2)]) (fun y => (y.1.1, 2, (insA g t i ++ (insK g t i).take y.1.2).map Ins) :: H) (fun y => s.atts.length - y.1.2) ⟨(q, 0), by simp⟩ (by simp [E2]) (by simp) ?_
      rintro ⟨⟨q2, k⟩, hk2⟩ hn2
      dsimp only at hk2 hn2 ⊢
      replace hn2 := neH_of hn2
      (replace hn2 := hn2; simp only [neH_cons, neH_nil, neA_cons, neA_nil, and_true, true_and] at hn2)
      have hkl : (insK g t i).length = s.atts.length := by rw [hik]; simp
      rcases Nat.lt_or_ge k s.atts.length with hlt2 | hge2
      · ((try with_reducible refine mkQI ?_); (repeat ((first | (with_reducible refine mkQU ?_) | simp only [brGen]); try simp (maxSteps := 4000000) +contextual only [↓ S2, S2, vIte, ↓reduceIte, Int.reduceNe, Nat.reduceEqDiff, reduceCtorEq, Nat.reduceLeDiff, Nat.reduceAdd, Nat.reduceLT, hget_c, hset_c, hdel_c, neN, neA_cons, neA_nil, hn2, List.length_append, List.length_singleton, List.length_map, List.length_take, maxLv])); (try simp +contextual (disch := omega) only [Z2, hn2, List.length_append, List.length_singleton, List.length_map, List.length_take, maxLv]); (repeat' (first | (with_reducible intro h) | (with_reducible refine And.intro (by omega) ?_) | (with_reducible refine exP (by omega) ?_) | (with_reducible apply And.intro))))
        all_goals try (exfalso; omega)
        rename_i r3 _ r4
        refine nxF ⟨(r4, k + 1), by omega⟩ (by simp; omega) (FE.perm (H := [_, _]) (L := [(r4, _)]) (by repeat' (first | exact trivial | (refine And.intro (by simp only [hget_c, *, if_true, if_false]; try rfl) (And.intro (by simp [names_cons, names_nil, *]) ?_))))) (by simp [E2]; omega) ?_
        have hk3 : k < (insK g t i).length := by omega
        have hx : (insK g t i)[k] = (t[i].id, s.atts[k].name) := by simp only [hik, List.getElem_map]
        have e := takeApp3 Ins (insA g t i) (insK g t i) k hk3 ((insA g t i).length + k) (by simp; omega)
        rw [hx] at e
        rw [← hik]
        exact congrArg (fun l => (r4, 2, l) :: H) e
      · obtain rfl : k = s.atts.length := by omega
        ((try with_reducible refine mkQI ?_); (repeat ((first | (with_reducible refine mkQU ?_) | simp only [brGen]); try simp (maxSteps := 4000000) +contextual only [↓ S2, S2, vIte, ↓reduceIte, Int.reduceNe, Nat.reduceEqDiff, reduceCtorEq, Nat.reduceLeDiff, Nat.reduceAdd, Nat.reduceLT, hget_c, hset_c, hdel_c, neN, neA_cons, neA_nil, hn2, maxLv])); (try simp +contextual (disch := omega) only [Z2, hn2, maxLv]); (repeat' (first | (with_reducible intro h) | (with_reducible refine And.intro (by omega) ?_) | (with_reducible refine exP (by omega) ?_) | (with_reducible apply And.intro))))
        all_goals try (exfalso; omega)
        have ha : insA g t (i + 1) = insA g t i ++ insK g t i := rfl
        refine nx ⟨(q2, i + 1), by omega⟩ (by simp; omega) (by simp [E2, ha, hkl]) ?_
        rw [ha, List.take_of_length_le (by omega)]
    · obtain rfl : i = t.length := by omega
      ((try with_reducible refine mkQI ?_); (repeat ((first | (with_reducible refine mkQU ?_) | simp only [brGen]); try simp (maxSteps := 4000000) +contextual only [↓ S2, S2, vIte, ↓reduceIte, Int.reduceNe, Nat.reduceEqDiff, reduceCtorEq, Nat.reduceLeDiff, Nat.reduceAdd, Nat.reduceLT, hget_c, hset_c, hdel_c, neN, neA_cons, neA_nil, hn])); (try simp +contextual (disch := omega) only [Z2, hn]); (repeat' (first | (with_reducible intro h) | (with_reducible refine And.intro (by omega) ?_) | (with_reducible refine exP (by omega) ?_) | (with_reducible apply And.intro))))
      all_goals try (exfalso; omega)
      exact ⟨_, ⟨q, rfl, rfl⟩, rfl⟩
  · rw [insL, if_neg ht]
    have ht' : treeOf g t (symN g t 0) = false := by simpa using ht
    ((try with_reducible refine mkQI ?_); (repeat ((first | (with_reducible refine mkQU ?_) | simp only [brGen]); try simp (maxSteps := 4000000) +contextual only [↓ S2, S2, vIte, ↓reduceIte, Int.reduceNe, Nat.reduceEqDiff, reduceCtorEq, Nat.reduceLeDiff, Nat.reduceAdd, Nat.reduceLT, hget_c, hset_c, hdel_c, neN, neA_cons, neA_nil, ht'])); (try simp +contextual (disch := omega) only [Z2, ht']); (repeat' (first | (with_reducible intro h) | (with_reducible refine And.intro (by omega) ?_) | (with_reducible refine exP (by omega) ?_) | (with_reducible apply And.intro))))
    exact ⟨_, ⟨r0, rfl, rfl⟩, rfl⟩
theorem o74 (g : Gram) (t : List Nod) (hg : smGr g) (hl : t.length ≤ 1048576) (hk : ∀ x ∈ t, x.kids.length ≤ 1048576) (H : GH) : GCalls Tryz.prog 74 [Gr g, Tr t] H (fun v H' => ∃ H1, (∃ r, v = .own r 2 0 (insL g t).length ∧ H1 = [(r, 2, (insL g t).map Ins)]) ∧ H' = H1 ++ H) := by
  refine gstart mxd i74 rfl (by simp) ?_; simp (maxSteps := 2000000) only [↓ S2, S2, vIte, ↓reduceIte, Int.reduceNe, Nat.reduceEqDiff, reduceCtorEq, Nat.reduceLeDiff, Nat.reduceAdd, Nat.reduceLT]
  ((try with_reducible refine mkQI ?_); (repeat ((first | (with_reducible refine mkQU ?_) | simp only [brGen]); try simp (maxSteps := 4000000) +contextual only [↓ S2, S2, vIte, ↓reduceIte, Int.reduceNe, Nat.reduceEqDiff, reduceCtorEq, Nat.reduceLeDiff, Nat.reduceAdd, Nat.reduceLT, hget_c, hset_c, hdel_c, neN, neA_cons, neA_nil, ])); (try simp +contextual (disch := omega) only [Z2, ]); (repeat' (first | (with_reducible intro h) | (with_reducible refine And.intro (by omega) ?_) | (with_reducible refine exP (by omega) ?_) | (with_reducible apply And.intro))))
  rename_i r0
  refine callS.eq (w136 g t hg hl hk) ?_
  have hil := insL_len hg t
  by_cases ht : treeOf g t (symN g t 0) = true
  · have htl := treeOf_len ht
    have hia := insA_len hg t
    rw [insL, if_pos ht] at hil ⊢
    ((try with_reducible refine mkQI ?_); (repeat ((first | (with_reducible refine mkQU ?_) | simp only [brGen]); try simp (maxSteps := 4000000) +contextual only [↓ S2, S2, vIte, ↓reduceIte, Int.reduceNe, Nat.reduceEqDiff, reduceCtorEq, Nat.reduceLeDiff, Nat.reduceAdd, Nat.reduceLT, hget_c, hset_c, hdel_c, neN, neA_cons, neA_nil, ht])); (try simp +contextual (disch := omega) only [Z2, ht]); (repeat' (first | (with_reducible intro h) | (with_reducible refine And.intro (by omega) ?_) | (with_reducible refine exP (by omega) ?_) | (with_reducible apply And.intro))))
    refine wloopN mxd (ι := { y : Nat × Nat // y.2 ≤ t.length }) (fun y => [(2, .rop 2 (Gr g)), (3, .rop 1 (Tr t)), (5, .own y.1.1 2 0 (insA g t y.1.2).length), (19, NdS t), (20, I t.length), (21, I y.1.2)]) (fun y => (y.1.1, 2, (insA g t y.1.2).map Ins) :: H) (fun y => t.length - y.1.2) ⟨(r0, 0), by simp⟩ (by simp [E2, insA]) (by simp [insA]) ?_
    rintro ⟨⟨q, i⟩, hi⟩ hn
    dsimp only at hi hn ⊢
    replace hn := neH_of hn
    (replace hn := hn; simp only [neH_cons, neH_nil, neA_cons, neA_nil, and_true, true_and] at hn)
    rcases Nat.lt_or_ge i t.length with hlt | hge
    · ((try with_reducible refine mkQI ?_); (repeat ((first | (with_reducible refine mkQU ?_) | simp only [brGen]); try simp (maxSteps := 4000000) +contextual only [↓ S2, S2, vIte, ↓reduceIte, Int.reduceNe, Nat.reduceEqDiff, reduceCtorEq, Nat.reduceLeDiff, Nat.reduceAdd, Nat.reduceLT, hget_c, hset_c, hdel_c, neN, neA_cons, neA_nil, hn])); (try simp +contextual (disch := omega) only [Z2, hn]); (repeat' (first | (with_reducible intro h) | (with_reducible refine And.intro (by omega) ?_) | (with_reducible refine exP (by omega) ?_) | (with_reducible apply And.intro))))
      all_goals try (exfalso; omega)
      refine callS.eq (w137 g t i hg) ?_
      ((try with_reducible refine mkQI ?_); (repeat ((first | (with_reducible refine mkQU ?_) | simp only [brGen]); try simp (maxSteps := 4000000) +contextual only [↓ S2, S2, vIte, ↓reduceIte, Int.reduceNe, Nat.reduceEqDiff, reduceCtorEq, Nat.reduceLeDiff, Nat.reduceAdd, Nat.reduceLT, hget_c, hset_c, hdel_c, neN, neA_cons, neA_nil, hn])); (try simp +contextual (disch := omega) only [Z2, hn]); (repeat' (first | (with_reducible intro h) | (with_reducible refine And.intro (by omega) ?_) | (with_reducible refine exP (by omega) ?_) | (with_reducible apply And.intro))))
      refine callS.eq (w103 g _ hg) ?_
      ((try with_reducible refine mkQI ?_); (repeat ((first | (with_reducible refine mkQU ?_) | simp only [brGen]); try simp (maxSteps := 4000000) +contextual only [↓ S2, S2, vIte, ↓reduceIte, Int.reduceNe, Nat.reduceEqDiff, reduceCtorEq, Nat.reduceLeDiff, Nat.reduceAdd, Nat.reduceLT, hget_c, hset_c, hdel_c, neN, neA_cons, neA_nil, hn])); (try simp +contextual (disch := omega) only [Z2, hn]); (repeat' (first | (with_reducible intro h) | (with_reducible refine And.intro (by omega) ?_) | (with_reducible refine exP (by omega) ?_) | (with_reducible apply And.intro))))
      have hsl : (fSym g.syms (symN g t i)).atts.length ≤ 1048576 := smSy_f hg _
      have hik : insK g t i = (fSym g.syms (symN g t i)).atts.map fun a => (t[i].id, a.name) := by simp only [insK]; rw [getD_lt hlt]
      have hai := hia i
      generalize fSym g.syms (symN g t i) = s at *
      refine wloopN mxd (ι := { y : Nat × Nat // y.2 ≤ s.atts.length }) (fun y => [(2, .rop 2 (Gr g)), (3, .rop 1 (Tr t)), (5, .own y.1.1 2 0 ((insA g t i).length + y.1.2)), (19, NdS t), (20, I t.length), (21, I i), (7, .rop 6 (Nd t[i])), (36, AtS s.atts), (37, I s.atts.length), (38, I y.1.2)]) (fun y => (y.1.1, 2, (insA g t i ++ (insK g t i).take y.1.2).map Ins) :: H) (fun y => s.atts.length - y.1.2) ⟨(q, 0), by simp⟩ (by simp [E2]) (by simp) ?_
      rintro ⟨⟨q2, k⟩, hk2⟩ hn2
      dsimp only at hk2 hn2 ⊢
      replace hn2 := neH_of hn2
      (replace hn2 := hn2; simp only [neH_cons, neH_nil, neA_cons, neA_nil, and_true, true_and] at hn2)
      have hkl : (insK g t i).length = s.atts.length := by rw [hik]; simp
      rcases Nat.lt_or_ge k s.atts.length with hlt2 | hge2
      · ((try with_reducible refine mkQI ?_); (repeat ((first | (with_reducible refine mkQU ?_) | simp only [brGen]); try simp (maxSteps := 4000000) +contextual only [↓ S2, S2, vIte, ↓reduceIte, Int.reduceNe, Nat.reduceEqDiff, reduceCtorEq, Nat.reduceLeDiff, Nat.reduceAdd, Nat.reduceLT, hget_c, hset_c, hdel_c, neN, neA_cons, neA_nil, hn2, List.length_append, List.length_singleton, List.length_map, List.length_take, maxLv])); (try simp +contextual (disch := omega) only [Z2, hn2, List.length_append, List.length_singleton, List.length_map, List.length_take, maxLv]); (repeat' (first | (with_reducible intro h) | (with_reducible refine And.intro (by omega) ?_) | (with_reducible refine exP (by omega) ?_) | (with_reducible apply And.intro))))
        all_goals try (exfalso; omega)
        rename_i r3 _ r4
        refine nxF ⟨(r4, k + 1), by omega⟩ (by simp; omega) (FE.perm (H := [_, _]) (L := [(r4, _)]) (by repeat' (first | exact trivial | (refine And.intro (by simp only [hget_c, *, if_true, if_false]; try rfl) (And.intro (by simp [names_cons, names_nil, *]) ?_))))) (by simp [E2]; omega) ?_
        have hk3 : k < (insK g t i).length := by omega
        have hx : (insK g t i)[k] = (t[i].id, s.atts[k].name) := by simp only [hik, List.getElem_map]
        have e := takeApp3 Ins (insA g t i) (insK g t i) k hk3 ((insA g t i).length + k) (by simp; omega)
        rw [hx] at e
        rw [← hik]
        exact congrArg (fun l => (r4, 2, l) :: H) e
      · obtain rfl : k = s.atts.length := by omega
        ((try with_reducible refine mkQI ?_); (repeat ((first | (with_reducible refine mkQU ?_) | simp only [brGen]); try simp (maxSteps := 4000000) +contextual only [↓ S2, S2, vIte, ↓reduceIte, Int.reduceNe, Nat.reduceEqDiff, reduceCtorEq, Nat.reduceLeDiff, Nat.reduceAdd, Nat.reduceLT, hget_c, hset_c, hdel_c, neN, neA_cons, neA_nil, hn2, maxLv])); (try simp +contextual (disch := omega) only [Z2, hn2, maxLv]); (repeat' (first | (with_reducible intro h) | (with_reducible refine And.intro (by omega) ?_) | (with_reducible refine exP (by omega) ?_) | (with_reducible apply And.intro))))
        all_goals try (exfalso; omega)
        have ha : insA g t (i + 1) = insA g t i ++ insK g t i := rfl
        refine nx ⟨(q2, i + 1), by omega⟩ (by simp; omega) (by simp [E2, ha, hkl]) ?_
        rw [ha, List.take_of_length_le (by omega)]
    · obtain rfl : i = t.length := by omega
      ((try with_reducible refine mkQI ?_); (repeat ((first | (with_reducible refine mkQU ?_) | simp only [brGen]); try simp (maxSteps := 4000000) +contextual only [↓ S2, S2, vIte, ↓reduceIte, Int.reduceNe, Nat.reduceEqDiff, reduceCtorEq, Nat.reduceLeDiff, Nat.reduceAdd, Nat.reduceLT, hget_c, hset_c, hdel_c, neN, neA_cons, neA_nil, hn])); (try simp +contextual (disch := omega) only [Z2, hn]); (repeat' (first | (with_reducible intro h) | (with_reducible refine And.intro (by omega) ?_) | (with_reducible refine exP (by omega) ?_) | (with_reducible apply And.intro))))
      all_goals try (exfalso; omega)
      exact ⟨_, ⟨q, rfl, rfl⟩, rfl⟩
  · rw [insL, if_neg ht]
    have ht' : treeOf g t (symN g t 0) = false := by simpa using ht
    ((try with_reducible refine mkQI ?_); (repeat ((first | (with_reducible refine mkQU ?_) | simp only [brGen]); try simp (maxSteps := 4000000) +contextual only [↓ S2, S2, vIte, ↓reduceIte, Int.reduceNe, Nat.reduceEqDiff, reduceCtorEq, Nat.reduceLeDiff, Nat.reduceAdd, Nat.reduceLT, hget_c, hset_c, hdel_c, neN, neA_cons, neA_nil, ht'])); (try simp +contextual (disch := omega) only [Z2, ht']); (repeat' (first | (with_reducible intro h) | (with_reducible refine And.intro (by omega) ?_) | (with_reducible refine exP (by omega) ?_) | (with_reducible apply And.intro))))
    exact ⟨_, ⟨r0, rfl, rfl⟩, rfl⟩
end Go.Proofs.YtbdmpkidcpblaaaGreat

