/- The law FnExactTreeCycle returns true whatever the input, and the input reads behind the call as before. No condition. -/
import Derived.Test.YtbdmpkidcpblaaaGreatCyc15
namespace Go.Proofs.YtbdmpkidcpblaaaGreat
open Go.Gh
set_option maxRecDepth 20000
set_option linter.unusedSimpArgs false
set_option linter.unusedVariables false
set_option maxHeartbeats 2000000 in
theorem o30 (g : Gram) (t : List Nod) (hg : smGr g) (hl : t.length ≤ 1048576) (hk : ∀ x ∈ t, x.kids.length ≤ 1048576) (H : GH) : GCalls Tryz.prog 30 [Gr g, Tr t] H (fun v H' => ∃ H1, (∃ r, v = .own r 1 0 (insL g t).length ∧ H1 = [(r, 1, (tabI g t).map ItO)]) ∧ H' = H1 ++ H) := by
  refine gstart mxd i30 rfl (by simp) ?_; simp (maxSteps := 2000000) only [↓ S2, S2, vIte, ↓reduceIte, Int.reduceNe, Nat.reduceEqDiff, reduceCtorEq, Nat.reduceLeDiff, Nat.reduceAdd, Nat.reduceLT]
  ((try with_reducible refine mkQI ?_); (repeat ((first | (with_reducible refine mkQU ?_) | simp only [brGen]); try simp (maxSteps := 4000000) +contextual only [↓ S2, S2, vIte, ↓reduceIte, Int.reduceNe, Nat.reduceEqDiff, reduceCtorEq, Nat.reduceLeDiff, Nat.reduceAdd, Nat.reduceLT, hget_c, hset_c, hdel_c, neN, neA_cons, neA_nil, ])); (try simp +contextual (disch := omega) only [Z2, ]); (repeat' (first | (with_reducible intro h) | (with_reducible refine And.intro (by omega) ?_) | (with_reducible refine exP (by omega) ?_) | (with_reducible apply And.intro))))
  refine callS.eq (q57 g t hg hl hk) ?_
  have hLl := insL_len hg t
  have hT : tabI g t = (insL g t).map (rowI g t (insL g t)) := rfl
  rw [hT]
  generalize insL g t = L at *
  ((try with_reducible refine mkQI ?_); (repeat ((first | (with_reducible refine mkQU ?_) | simp only [brGen]); try simp (maxSteps := 4000000) +contextual only [↓ S2, S2, vIte, ↓reduceIte, Int.reduceNe, Nat.reduceEqDiff, reduceCtorEq, Nat.reduceLeDiff, Nat.reduceAdd, Nat.reduceLT, hget_c, hset_c, hdel_c, neN, neA_cons, neA_nil, ])); (try simp +contextual (disch := omega) only [Z2, ]); (repeat' (first | (with_reducible intro h) | (with_reducible refine And.intro (by omega) ?_) | (with_reducible refine exP (by omega) ?_) | (with_reducible apply And.intro))))
  rename_i r0
  refine wloopN mxd (ι := { y : Nat × Nat // y.2 ≤ L.length }) (fun y => [(2, .rop 2 (Gr g)), (3, .rop 1 (Tr t)), (5, InsS L), (6, .own y.1.1 1 0 y.1.2), (7, I y.1.2)]) (fun y => (y.1.1, 1, ((L.take y.1.2).map (rowI g t L)).map ItO) :: H) (fun y => L.length - y.1.2) ⟨(r0, 0), by simp⟩ (by simp [E2]) (by simp) ?_
  rintro ⟨⟨q, i⟩, hi⟩ hn
  dsimp only at hi hn ⊢
  replace hn := neH_of hn
  (replace hn := hn; simp only [neH_cons, neH_nil, neA_cons, neA_nil, and_true, true_and] at hn)
  rcases Nat.lt_or_ge i L.length with hlt | hge
  · ((try with_reducible refine mkQI ?_); (repeat ((first | (with_reducible refine mkQU ?_) | simp only [brGen]); try simp (maxSteps := 4000000) +contextual only [↓ S2, S2, vIte, ↓reduceIte, Int.reduceNe, Nat.reduceEqDiff, reduceCtorEq, Nat.reduceLeDiff, Nat.reduceAdd, Nat.reduceLT, hget_c, hset_c, hdel_c, neN, neA_cons, neA_nil, hn])); (try simp +contextual (disch := omega) only [Z2, hn]); (repeat' (first | (with_reducible intro h) | (with_reducible refine And.intro (by omega) ?_) | (with_reducible refine exP (by omega) ?_) | (with_reducible apply And.intro))))
    all_goals try (exfalso; omega)
    refine callS.eq (q63 g t L[i] hg hl hk) ?_
    have hS : rowI g t L L[i] = (stI g t L[i]).map (ixI L) := rfl
    have hsl := stI_len hg t L[i]
    generalize stI g t L[i] = S at *
    ((try with_reducible refine mkQI ?_); (repeat ((first | (with_reducible refine mkQU ?_) | simp only [brGen]); try simp (maxSteps := 4000000) +contextual only [↓ S2, S2, vIte, ↓reduceIte, Int.reduceNe, Nat.reduceEqDiff, reduceCtorEq, Nat.reduceLeDiff, Nat.reduceAdd, Nat.reduceLT, hget_c, hset_c, hdel_c, neN, neA_cons, neA_nil, hn])); (try simp +contextual (disch := omega) only [Z2, hn]); (repeat' (first | (with_reducible intro h) | (with_reducible refine And.intro (by omega) ?_) | (with_reducible refine exP (by omega) ?_) | (with_reducible apply And.intro))))
    rename_i r1
    refine wloopN mxd (ι := { y : Nat × Nat // y.2 ≤ S.length }) (fun y => [(2, .rop 2 (Gr g)), (3, .rop 1 (Tr t)), (5, InsS L), (6, .own q 1 0 i), (7, I i), (8, InsS S), (9, .own y.1.1 1 0 y.1.2), (10, I y.1.2)]) (fun y => (y.1.1, 1, ((S.take y.1.2).map (ixI L)).map I) :: (q, 1, ((L.take i).map (rowI g t L)).map ItO) :: H) (fun y => S.length - y.1.2) ⟨(r1, 0), by simp⟩ (by simp [E2]) (by simp) ?_
    rintro ⟨⟨p, k⟩, hk2⟩ hn2
    dsimp only at hk2 hn2 ⊢
    replace hn2 := neH_of hn2
    (replace hn2 := hn2; simp only [neH_cons, neH_nil, neA_cons, neA_nil, and_true, true_and] at hn2)
    rcases Nat.lt_or_ge k S.length with hlt2 | hge2
    · ((try with_reducible refine mkQI ?_); (repeat ((first | (with_reducible refine mkQU ?_) | simp only [brGen]); try simp (maxSteps := 4000000) +contextual only [↓ S2, S2, vIte, ↓reduceIte, Int.reduceNe, Nat.reduceEqDiff, reduceCtorEq, Nat.reduceLeDiff, Nat.reduceAdd, Nat.reduceLT, hget_c, hset_c, hdel_c, neN, neA_cons, neA_nil, hn2])); (try simp +contextual (disch := omega) only [Z2, hn2]); (repeat' (first | (with_reducible intro h) | (with_reducible refine And.intro (by omega) ?_) | (with_reducible refine exP (by omega) ?_) | (with_reducible apply And.intro))))
      all_goals try (exfalso; omega)
      refine callS.eq (w64 L S[k]) ?_
      ((try with_reducible refine mkQI ?_); (repeat ((first | (with_reducible refine mkQU ?_) | simp only [brGen]); try simp (maxSteps := 4000000) +contextual only [↓ S2, S2, vIte, ↓reduceIte, Int.reduceNe, Nat.reduceEqDiff, reduceCtorEq, Nat.reduceLeDiff, Nat.reduceAdd, Nat.reduceLT, hget_c, hset_c, hdel_c, neN, neA_cons, neA_nil, hn2, List.length_append, List.length_singleton, List.length_map, List.length_take, maxLv])); (try simp +contextual (disch := omega) only [Z2, hn2, List.length_append, List.length_singleton, List.length_map, List.length_take, maxLv]); (repeat' (first | (with_reducible intro h) | (with_reducible refine And.intro (by omega) ?_) | (with_reducible refine exP (by omega) ?_) | (with_reducible apply And.intro))))
      all_goals try (exfalso; omega)
      rename_i r3 _ r4
      refine nxF ⟨(r4, k + 1), by omega⟩ (by simp; omega) (FE.perm (H := [_, _, _]) (L := [(r4, _), (q, _)]) (by repeat' (first | exact trivial | (refine And.intro (by simp only [hget_c, *, if_true, if_false]; try rfl) (And.intro (by simp [names_cons, names_nil, *]) ?_))))) (by simp [E2]) ?_
      rw [takeApp2 I (ixI L) S k hlt2]
      rfl
    · obtain rfl : k = S.length := by omega
      ((try with_reducible refine mkQI ?_); (repeat ((first | (with_reducible refine mkQU ?_) | simp only [brGen]); try simp (maxSteps := 4000000) +contextual only [↓ S2, S2, vIte, ↓reduceIte, Int.reduceNe, Nat.reduceEqDiff, reduceCtorEq, Nat.reduceLeDiff, Nat.reduceAdd, Nat.reduceLT, hget_c, hset_c, hdel_c, neN, neA_cons, neA_nil, hn2, List.length_append, List.length_singleton, List.length_map, List.length_take, maxLv])); (try simp +contextual (disch := omega) only [Z2, hn2, List.length_append, List.length_singleton, List.length_map, List.length_take, maxLv]); (repeat' (first | (with_reducible intro h) | (with_reducible refine And.intro (by omega) ?_) | (with_reducible refine exP (by omega) ?_) | (with_reducible apply And.intro))))
      all_goals try (exfalso; omega)
      rename_i r5 _ r6
      refine nxF ⟨(r6, i + 1), by omega⟩ (by simp; omega) (FE.trans (FE.perm (H := [_, _, _]) (L := [(r6, _), (p, _)]) (by repeat' (first | exact trivial | (refine And.intro (by simp only [hget_c, *, if_true, if_false]; try rfl) (And.intro (by simp [names_cons, names_nil, *]) ?_))))) (FE.closeE2 (by simp [*]) (by simp))) (by simp [E2]) ?_
      rw [List.take_length, ← hS, takeApp2 ItO (rowI g t L) L i hlt]
      rfl
  · obtain rfl : i = L.length := by omega
    ((try with_reducible refine mkQI ?_); (repeat ((first | (with_reducible refine mkQU ?_) | simp only [brGen]); try simp (maxSteps := 4000000) +contextual only [↓ S2, S2, vIte, ↓reduceIte, Int.reduceNe, Nat.reduceEqDiff, reduceCtorEq, Nat.reduceLeDiff, Nat.reduceAdd, Nat.reduceLT, hget_c, hset_c, hdel_c, neN, neA_cons, neA_nil, hn])); (try simp +contextual (disch := omega) only [Z2, hn]); (repeat' (first | (with_reducible intro h) | (with_reducible refine And.intro (by omega) ?_) | (with_reducible refine exP (by omega) ?_) | (with_reducible apply And.intro))))
    all_goals try (exfalso; omega)
    rw [List.take_length]
    exact ⟨_, ⟨q, rfl, rfl⟩, rfl⟩
theorem q30 (g : Gram) (t : List Nod) (hg : smGr g) (hl : t.length ≤ 1048576) (hk : ∀ x ∈ t, x.kids.length ≤ 1048576) : Pure Tryz.prog 30 [Gr g, Tr t] (· = TbS (tabI g t)) :=
  Pure.bor ((o30 g t hg hl hk []).mono fun v H' ⟨H1, ⟨r, h1, h2⟩, h3⟩ => by
    subst h1; subst h2; subst h3
    exact Bor.seen view_ItO hget_new (by simp [tabI]))
set_option maxHeartbeats 2000000 in
theorem o36 (g : Gram) (t : List Nod) (hg : smGr g) (hl : t.length ≤ 1048576) (hk : ∀ x ∈ t, x.kids.length ≤ 1048576) (H : GH) : GCalls Tryz.prog 36 [Gr g, Tr t] H (fun v H' => ∃ H1, (∃ r, v = .own r 1 0 (insL g t).length ∧ H1 = [(r, 1, (tabI g t).map ItO)]) ∧ H' = H1 ++ H) := by
  refine gstart mxd i36 rfl (by simp) ?_; simp (maxSteps := 2000000) only [↓ S2, S2, vIte, ↓reduceIte, Int.reduceNe, Nat.reduceEqDiff, reduceCtorEq, Nat.reduceLeDiff, Nat.reduceAdd, Nat.reduceLT]
  ((try with_reducible refine mkQI ?_); (repeat ((first | (with_reducible refine mkQU ?_) | simp only [brGen]); try simp (maxSteps := 4000000) +contextual only [↓ S2, S2, vIte, ↓reduceIte, Int.reduceNe, Nat.reduceEqDiff, reduceCtorEq, Nat.reduceLeDiff, Nat.reduceAdd, Nat.reduceLT, hget_c, hset_c, hdel_c, neN, neA_cons, neA_nil, ])); (try simp +contextual (disch := omega) only [Z2, ]); (repeat' (first | (with_reducible intro h) | (with_reducible refine And.intro (by omega) ?_) | (with_reducible refine exP (by omega) ?_) | (with_reducible apply And.intro))))
  refine callS.eq (q74 g t hg hl hk) ?_
  have hLl := insL_len hg t
  have hT : tabI g t = (insL g t).map (rowI g t (insL g t)) := rfl
  rw [hT]
  generalize insL g t = L at *
  ((try with_reducible refine mkQI ?_); (repeat ((first | (with_reducible refine mkQU ?_) | simp only [brGen]); try simp (maxSteps := 4000000) +contextual only [↓ S2, S2, vIte, ↓reduceIte, Int.reduceNe, Nat.reduceEqDiff, reduceCtorEq, Nat.reduceLeDiff, Nat.reduceAdd, Nat.reduceLT, hget_c, hset_c, hdel_c, neN, neA_cons, neA_nil, ])); (try simp +contextual (disch := omega) only [Z2, ]); (repeat' (first | (with_reducible intro h) | (with_reducible refine And.intro (by omega) ?_) | (with_reducible refine exP (by omega) ?_) | (with_reducible apply And.intro))))
  rename_i r0
  refine wloopN mxd (ι := { y : Nat × Nat // y.2 ≤ L.length }) (fun y => [(2, .rop 2 (Gr g)), (3, .rop 1 (Tr t)), (5, InsS L), (6, .own y.1.1 1 0 y.1.2), (16, InsS L), (17, I L.length), (18, I y.1.2)]) (fun y => (y.1.1, 1, ((L.take y.1.2).map (rowI g t L)).map ItO) :: H) (fun y => L.length - y.1.2) ⟨(r0, 0), by simp⟩ (by simp [E2]) (by simp) ?_
  rintro ⟨⟨q, i⟩, hi⟩ hn
  dsimp only at hi hn ⊢
  replace hn := neH_of hn
  (replace hn := hn; simp only [neH_cons, neH_nil, neA_cons, neA_nil, and_true, true_and] at hn)
  rcases Nat.lt_or_ge i L.length with hlt | hge
  · ((try with_reducible refine mkQI ?_); (repeat ((first | (with_reducible refine mkQU ?_) | simp only [brGen]); try simp (maxSteps := 4000000) +contextual only [↓ S2, S2, vIte, ↓reduceIte, Int.reduceNe, Nat.reduceEqDiff, reduceCtorEq, Nat.reduceLeDiff, Nat.reduceAdd, Nat.reduceLT, hget_c, hset_c, hdel_c, neN, neA_cons, neA_nil, hn])); (try simp +contextual (disch := omega) only [Z2, hn]); (repeat' (first | (with_reducible intro h) | (with_reducible refine And.intro (by omega) ?_) | (with_reducible refine exP (by omega) ?_) | (with_reducible apply And.intro))))
    all_goals try (exfalso; omega)
    refine callS.eq (q75 g t L[i] hg hl hk) ?_
    have hS : rowI g t L L[i] = (stI g t L[i]).map (ixI L) := rfl
    have hsl := stI_len hg t L[i]
    generalize stI g t L[i] = S at *
    ((try with_reducible refine mkQI ?_); (repeat ((first | (with_reducible refine mkQU ?_) | simp only [brGen]); try simp (maxSteps := 4000000) +contextual only [↓ S2, S2, vIte, ↓reduceIte, Int.reduceNe, Nat.reduceEqDiff, reduceCtorEq, Nat.reduceLeDiff, Nat.reduceAdd, Nat.reduceLT, hget_c, hset_c, hdel_c, neN, neA_cons, neA_nil, hn])); (try simp +contextual (disch := omega) only [Z2, hn]); (repeat' (first | (with_reducible intro h) | (with_reducible refine And.intro (by omega) ?_) | (with_reducible refine exP (by omega) ?_) | (with_reducible apply And.intro))))
    rename_i r1
    refine wloopN mxd (ι := { y : Nat × Nat // y.2 ≤ S.length }) (fun y => [(2, .rop 2 (Gr g)), (3, .rop 1 (Tr t)), (5, InsS L), (6, .own q 1 0 i), (16, InsS L), (17, I L.length), (18, I i), (26, InsS S), (27, I S.length), (28, I y.1.2), (9, .own y.1.1 1 0 y.1.2)]) (fun y => (y.1.1, 1, ((S.take y.1.2).map (ixI L)).map I) :: (q, 1, ((L.take i).map (rowI g t L)).map ItO) :: H) (fun y => S.length - y.1.2) ⟨(r1, 0), by simp⟩ (by simp [E2]) (by simp) ?_
    rintro ⟨⟨p, k⟩, hk2⟩ hn2
    dsimp only at hk2 hn2 ⊢
    replace hn2 := neH_of hn2
    (replace hn2 := hn2; simp only [neH_cons, neH_nil, neA_cons, neA_nil, and_true, true_and] at hn2)
    rcases Nat.lt_or_ge k S.length with hlt2 | hge2
    · ((try with_reducible refine mkQI ?_); (repeat ((first | (with_reducible refine mkQU ?_) | simp only [brGen]); try simp (maxSteps := 4000000) +contextual only [↓ S2, S2, vIte, ↓reduceIte, Int.reduceNe, Nat.reduceEqDiff, reduceCtorEq, Nat.reduceLeDiff, Nat.reduceAdd, Nat.reduceLT, hget_c, hset_c, hdel_c, neN, neA_cons, neA_nil, hn2])); (try simp +contextual (disch := omega) only [Z2, hn2]); (repeat' (first | (with_reducible intro h) | (with_reducible refine And.intro (by omega) ?_) | (with_reducible refine exP (by omega) ?_) | (with_reducible apply And.intro))))
      all_goals try (exfalso; omega)
      refine callS.eq (w76 L S[k]) ?_
      ((try with_reducible refine mkQI ?_); (repeat ((first | (with_reducible refine mkQU ?_) | simp only [brGen]); try simp (maxSteps := 4000000) +contextual only [↓ S2, S2, vIte, ↓reduceIte, Int.reduceNe, Nat.reduceEqDiff, reduceCtorEq, Nat.reduceLeDiff, Nat.reduceAdd, Nat.reduceLT, hget_c, hset_c, hdel_c, neN, neA_cons, neA_nil, hn2, List.length_append, List.length_singleton, List.length_map, List.length_take, maxLv])); (try simp +contextual (disch := omega) only [Z2, hn2, List.length_append, List.length_singleton, List.length_map, List.length_take, maxLv]); (repeat' (first | (with_reducible intro h) | (with_reducible refine And.intro (by omega) ?_) | (with_reducible refine exP (by omega) ?_) | (with_reducible apply And.intro))))
      all_goals try (exfalso; omega)
      rename_i r3 _ r4
      refine nxF ⟨(r4, k + 1), by omega⟩ (by simp; omega) (FE.perm (H := [_, _, _]) (L := [(r4, _), (q, _)]) (by repeat' (first | exact trivial | (refine And.intro (by simp only [hget_c, *, if_true, if_false]; try rfl) (And.intro (by simp [names_cons, names_nil, *]) ?_))))) (by simp [E2]) ?_
      rw [takeApp2 I (ixI L) S k hlt2]
      rfl
    · obtain rfl : k = S.length := by omega
      ((try with_reducible refine mkQI ?_); (repeat ((first | (with_reducible refine mkQU ?_) | simp only [brGen]); try simp (maxSteps := 4000000) +contextual only [↓ S2, S2, vIte, ↓reduceIte, Int.reduceNe, Nat.reduceEqDiff, reduceCtorEq, Nat.reduceLeDiff, Nat.reduceAdd, Nat.reduceLT, hget_c, hset_c, hdel_c, neN, neA_cons, neA_nil, hn2, List.length_append, List.length_singleton, List.length_map, List.length_take, maxLv])); (try simp +contextual (disch := omega) only [Z2, hn2, List.length_append, List.length_singleton, List.length_map, List.length_take, maxLv]); (repeat' (first | (with_reducible intro h) | (with_reducible refine And.intro (by omega) ?_) | (with_reducible refine exP (by omega) ?_) | (with_reducible apply And.intro))))
      all_goals try (exfalso; omega)
      rename_i r5 _ r6
      refine nxF ⟨(r6, i + 1), by omega⟩ (by simp; omega) (FE.trans (FE.perm (H := [_, _, _]) (L := [(r6, _), (p, _)]) (by repeat' (first | exact trivial | (refine And.intro (by simp only [hget_c, *, if_true, if_false]; try rfl) (And.intro (by simp [names_cons, names_nil, *]) ?_))))) (FE.closeE2 (by simp [*]) (by simp))) (by simp [E2]) ?_
      rw [List.take_length, ← hS, takeApp2 ItO (rowI g t L) L i hlt]
      rfl
  · obtain rfl : i = L.length := by omega
    ((try with_reducible refine mkQI ?_); (repeat ((first | (with_reducible refine mkQU ?_) | simp only [brGen]); try simp (maxSteps := 4000000) +contextual only [↓ S2, S2, vIte, ↓reduceIte, Int.reduceNe, Nat.reduceEqDiff, reduceCtorEq, Nat.reduceLeDiff, Nat.reduceAdd, Nat.reduceLT, hget_c, hset_c, hdel_c, neN, neA_cons, neA_nil, hn])); (try simp +contextual (disch := omega) only [Z2, hn]); (repeat' (first | (with_reducible intro h) | (with_reducible refine And.intro (by omega) ?_) | (with_reducible refine exP (by omega) ?_) | (with_reducible apply And.intro))))
    all_goals try (exfalso; omega)
    rw [List.take_length]
    exact ⟨_, ⟨q, rfl, rfl⟩, rfl⟩
theorem q36 (g : Gram) (t : List Nod) (hg : smGr g) (hl : t.length ≤ 1048576) (hk : ∀ x ∈ t, x.kids.length ≤ 1048576) : Pure Tryz.prog 36 [Gr g, Tr t] (· = TbS (tabI g t)) :=
  Pure.bor ((o36 g t hg hl hk []).mono fun v H' ⟨H1, ⟨r, h1, h2⟩, h3⟩ => by
    subst h1; subst h2; subst h3
    exact Bor.seen view_ItO hget_new (by simp [tabI]))
end Go.Proofs.YtbdmpkidcpblaaaGreat

