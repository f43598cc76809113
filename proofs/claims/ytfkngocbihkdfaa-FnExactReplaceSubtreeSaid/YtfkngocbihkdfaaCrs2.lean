/- The law FnExactReplaceSubtree returns true whatever the input, and the input reads behind the call as before. No condition. -/
import Derived.Test.YtfkngocbihkdfaaCrs1
namespace Go.Proofs.Ytfkngocbihkdfaa
open Go.Gh
set_option maxRecDepth 20000
set_option linter.unusedSimpArgs false
set_option linter.unusedVariables false
set_option maxHeartbeats 4000000 in
theorem o12 (t : List Nod) (i : Int) (sub : List Nod) (hl : t.length ≤ 1048576) (hx : ∀ x ∈ t, x.kids.length ≤ 1048576) (hsl : sub.length ≤ 1048576) (hsx : ∀ x ∈ sub, x.kids.length ≤ 1048576) (H : GH) : GCalls Try.prog 12 [Tr t, I i, Tr sub] H (fun g H' => ∃ r, g = .agg [.own r 6 0 (repT t i sub).length] ∧ H' = (r, 6, (repT t i sub).map NdO) :: H) := by
  have h0 : GCalls Try.prog 12 [Tr t, I i, Tr sub] H (fun g H' => ∃ r, g = .agg [.own r 6 0 (repT t i sub).length] ∧ (H' = (r, 6, (repT t i sub).map NdO) :: H ∨ ∃ r0 e, r ≠ r0 ∧ H' = (r, 6, (repT t i sub).map NdO) :: (r0, 1, e) :: H)) := by
    refine gstart mxd i12 rfl (by simp) ?_; simp (maxSteps := 2000000) only [↓ S2, S2, vIte, ↓reduceIte, Int.reduceNe, Nat.reduceEqDiff, reduceCtorEq, Nat.reduceLeDiff, Nat.reduceAdd, Nat.reduceLT]
    refine callS.eq (w15 t i) ?_
    by_cases hc : 0 ≤ i ∧ i < t.length ∧ sub ≠ []
    · obtain ⟨i, rfl⟩ : ∃ k : Nat, i = k := ⟨i.toNat, by omega⟩
      have hi : i < t.length := by omega
      have hle := subLen_le hi
      have hpos := subLen_pos (t := t) (i := i)
      have hsn : 0 < sub.length := List.length_pos_iff.2 hc.2.2
      have hn0 : ¬ ((subLen t i : Int) = 0) := by omega
      have hs0 : ¬ ((sub.length : Int) = 0) := by omega
      obtain ⟨F, hF⟩ : ∃ F, outN (i + subLen t i) (sub.length - subLen t i) = F := ⟨_, rfl⟩
      have hre : repT t i sub = (t.take i).map F ++ (putT sub t[i] i ++ (t.drop (i + subLen t i)).map F) := by
        simp only [repT, if_pos hc, hF, Int.toNat_natCast]
        rw [getD_lt hi]
      rw [hre]
      clear hre
      rw [treeSize_in hi]
      generalize hnn : subLen t i = n at *
      ((try simp (maxSteps := 4000000) +contextual only [↓ S2, S2, vIte, ↓reduceIte, Int.reduceNe, Nat.reduceEqDiff, reduceCtorEq, Nat.reduceLeDiff, Nat.reduceAdd, Nat.reduceLT, hget_c, hset_c, hdel_c, neN, neA_cons, neA_nil, hn0, hs0]); (repeat (simp only [brGen]; try simp (maxSteps := 4000000) +contextual only [↓ S2, S2, vIte, ↓reduceIte, Int.reduceNe, Nat.reduceEqDiff, reduceCtorEq, Nat.reduceLeDiff, Nat.reduceAdd, Nat.reduceLT, hget_c, hset_c, hdel_c, neN, neA_cons, neA_nil, hn0, hs0])); (try simp +contextual (disch := omega) only [Z2]); (repeat' (first | (with_reducible intro h) | (with_reducible refine And.intro (by omega) ?_) | (with_reducible refine exP (by omega) ?_) | (with_reducible apply And.intro))))
      rename_i r0
      refine wloopF mxd (ι := { y : Nat × Nat // y.2 ≤ i }) (fun y => [(1, I i), (3, .rop 1 (Tr t)), (5, .rop 1 (Tr sub)), (6, .raw 1), (7, I n), (8, .ptr r0 1 0 0), (9, I (sub.length - n)), (10, I y.1.2)]) (fun y => (y.1.1, 6, ((t.take y.1.2).map F).map NdO) :: (r0, 1, [.own y.1.1 6 0 y.1.2]) :: H) (fun y => i - y.1.2) ⟨(vname ((r0, 1, [.agg [.val (.slice none 0 0)]]) :: H), 0), by simp⟩ (FE.virtU1 (sz1 := 6) (vname_odd _) (vname_new _)) (by simp [E2]) rfl ?_
      rintro ⟨⟨q, k⟩, hk⟩ hn
      dsimp only at hk hn ⊢
      refine gwp_ok mxd ?_
      replace hn := neH_of hn
      (replace hn := hn; simp only [neH_cons, neH_nil, neA_cons, neA_nil, and_true, true_and] at hn)
      rcases Nat.lt_or_ge k i with hlt | hge
      · have hkt : k < t.length := by omega
        have hxk := hx _ (List.getElem_mem hkt)
        ((try simp (maxSteps := 4000000) +contextual only [↓ S2, S2, vIte, ↓reduceIte, Int.reduceNe, Nat.reduceEqDiff, reduceCtorEq, Nat.reduceLeDiff, Nat.reduceAdd, Nat.reduceLT, hget_c, hset_c, hdel_c, neN, neA_cons, neA_nil, hn, List.length_append, List.length_singleton, List.length_map, List.length_take, maxLv]); (repeat (simp only [brGen]; try simp (maxSteps := 4000000) +contextual only [↓ S2, S2, vIte, ↓reduceIte, Int.reduceNe, Nat.reduceEqDiff, reduceCtorEq, Nat.reduceLeDiff, Nat.reduceAdd, Nat.reduceLT, hget_c, hset_c, hdel_c, neN, neA_cons, neA_nil, hn, List.length_append, List.length_singleton, List.length_map, List.length_take, maxLv])); (try simp +contextual (disch := omega) only [Z2]); (repeat' (first | (with_reducible intro h) | (with_reducible refine And.intro (by omega) ?_) | (with_reducible refine exP (by omega) ?_) | (with_reducible apply And.intro))))
        · refine callA.of (o24 t[k] _ _ hxk _) (by rintro g H' ⟨H1, _, rfl⟩; exact ⟨H1, rfl⟩) ?_
          rintro g H' ⟨H1, ⟨rc, rfl, rfl⟩, rfl⟩ hnc
          replace hnc := neH_of hnc
          simp only [List.cons_append, List.nil_append] at hnc ⊢
          (replace hnc := hnc; simp only [neH_cons, neH_nil, neA_cons, neA_nil, and_true, true_and] at hnc)
          ((try simp (maxSteps := 4000000) +contextual only [↓ S2, S2, vIte, ↓reduceIte, Int.reduceNe, Nat.reduceEqDiff, reduceCtorEq, Nat.reduceLeDiff, Nat.reduceAdd, Nat.reduceLT, hget_c, hset_c, hdel_c, neN, neA_cons, neA_nil, hn, hnc, List.length_append, List.length_singleton, List.length_map, List.length_take, maxLv]); (repeat (simp only [brGen]; try simp (maxSteps := 4000000) +contextual only [↓ S2, S2, vIte, ↓reduceIte, Int.reduceNe, Nat.reduceEqDiff, reduceCtorEq, Nat.reduceLeDiff, Nat.reduceAdd, Nat.reduceLT, hget_c, hset_c, hdel_c, neN, neA_cons, neA_nil, hn, hnc, List.length_append, List.length_singleton, List.length_map, List.length_take, maxLv])); (try simp +contextual (disch := omega) only [Z2]); (repeat' (first | (with_reducible intro h) | (with_reducible refine And.intro (by omega) ?_) | (with_reducible refine exP (by omega) ?_) | (with_reducible apply And.intro))))
          · rename_i r3 _ r4
            refine nxF ⟨(r4, k + 1), by omega⟩ (by simp; omega) (FE.trans (FE.perm (H := [_, _, _, _]) (L := [(r4, _), (rc, _), (r0, _)]) (by repeat' (first | exact trivial | (refine And.intro (by simp only [hget_c, *, if_true, if_false]; rfl) (And.intro (by simp [names_cons, names_nil, *]) ?_))))) (FE.closeL2 (j := 5) (by simp [*]) rfl (by simp))) (by simp [E2]) ?_
            rw [List.take_of_length_le (by simp; omega), ← take_snocM F hkt, List.map_append, ← hF]
            rfl
        all_goals (exfalso; omega)
      · have hki : i = k := by omega
        subst hki
        ((try simp (maxSteps := 4000000) +contextual only [↓ S2, S2, vIte, ↓reduceIte, Int.reduceNe, Nat.reduceEqDiff, reduceCtorEq, Nat.reduceLeDiff, Nat.reduceAdd, Nat.reduceLT, hget_c, hset_c, hdel_c, neN, neA_cons, neA_nil, hn, List.length_append, List.length_singleton, List.length_map, List.length_take, maxLv]); (repeat (simp only [brGen]; try simp (maxSteps := 4000000) +contextual only [↓ S2, S2, vIte, ↓reduceIte, Int.reduceNe, Nat.reduceEqDiff, reduceCtorEq, Nat.reduceLeDiff, Nat.reduceAdd, Nat.reduceLT, hget_c, hset_c, hdel_c, neN, neA_cons, neA_nil, hn, List.length_append, List.length_singleton, List.length_map, List.length_take, maxLv])); (try simp +contextual (disch := omega) only [Z2]); (repeat' (first | (with_reducible intro h) | (with_reducible refine And.intro (by omega) ?_) | (with_reducible refine exP (by omega) ?_) | (with_reducible apply And.intro))))
        all_goals try (exfalso; omega)
        have hpl : (putT sub t[i] i).length = sub.length := putT_len _ _ _
        have hil : (t.take i).length = i := by simp; omega
        refine wloopN mxd (ι := { y : Nat × Nat // y.2 ≤ sub.length }) (fun y => [(1, I i), (3, .rop 1 (Tr t)), (5, .rop 1 (Tr sub)), (6, .raw 1), (7, I n), (8, .ptr r0 1 0 0), (9, I (sub.length - n)), (11, I y.1.2)]) (fun y => (y.1.1, 6, ((t.take i).map F ++ (putT sub t[i] i).take y.1.2).map NdO) :: (r0, 1, [.own y.1.1 6 0 (i + y.1.2)]) :: H) (fun y => sub.length - y.1.2) ⟨(q, 0), by simp⟩ (by simp [E2]) (by simp) ?_
        rintro ⟨⟨q2, k⟩, hk2⟩ hn2
        dsimp only at hk2 hn2 ⊢
        replace hn2 := neH_of hn2
        (replace hn2 := hn2; simp only [neH_cons, neH_nil, neA_cons, neA_nil, and_true, true_and] at hn2)
        rcases Nat.lt_or_ge k sub.length with hlt | hge
        · have hxk := hsx _ (List.getElem_mem hlt)
          have hik : k = 0 ∨ ¬ k = 0 := by omega
          have hik' : (k : Int) = 0 ↔ k = 0 := by omega
          rcases hik with hik | hik
          all_goals
            ((try simp (maxSteps := 4000000) +contextual only [↓ S2, S2, vIte, ↓reduceIte, Int.reduceNe, Nat.reduceEqDiff, reduceCtorEq, Nat.reduceLeDiff, Nat.reduceAdd, Nat.reduceLT, hget_c, hset_c, hdel_c, neN, neA_cons, neA_nil, hn2, hik, hik', List.length_append, List.length_singleton, List.length_map, List.length_take, maxLv]); (repeat (simp only [brGen]; try simp (maxSteps := 4000000) +contextual only [↓ S2, S2, vIte, ↓reduceIte, Int.reduceNe, Nat.reduceEqDiff, reduceCtorEq, Nat.reduceLeDiff, Nat.reduceAdd, Nat.reduceLT, hget_c, hset_c, hdel_c, neN, neA_cons, neA_nil, hn2, hik, hik', List.length_append, List.length_singleton, List.length_map, List.length_take, maxLv])); (try simp +contextual (disch := omega) only [Z2]); (repeat' (first | (with_reducible intro h) | (with_reducible refine And.intro (by omega) ?_) | (with_reducible refine exP (by omega) ?_) | (with_reducible apply And.intro))))
          all_goals try (exfalso; omega)
          all_goals
            refine callS.of (o16 _ _ (hsx _ (List.getElem_mem _)) _) ?_
            rintro g H' ⟨rc, rfl, rfl⟩ hnc
            replace hnc := neH_of hnc
            (replace hnc := hnc; simp only [neH_cons, neH_nil, neA_cons, neA_nil, and_true, true_and] at hnc)
            ((try simp (maxSteps := 4000000) +contextual only [↓ S2, S2, vIte, ↓reduceIte, Int.reduceNe, Nat.reduceEqDiff, reduceCtorEq, Nat.reduceLeDiff, Nat.reduceAdd, Nat.reduceLT, hget_c, hset_c, hdel_c, neN, neA_cons, neA_nil, hn2, hnc, hik, hik', List.length_append, List.length_singleton, List.length_map, List.length_take, maxLv]); (repeat (simp only [brGen]; try simp (maxSteps := 4000000) +contextual only [↓ S2, S2, vIte, ↓reduceIte, Int.reduceNe, Nat.reduceEqDiff, reduceCtorEq, Nat.reduceLeDiff, Nat.reduceAdd, Nat.reduceLT, hget_c, hset_c, hdel_c, neN, neA_cons, neA_nil, hn2, hnc, hik, hik', List.length_append, List.length_singleton, List.length_map, List.length_take, maxLv])); (try simp +contextual (disch := omega) only [Z2]); (repeat' (first | (with_reducible intro h) | (with_reducible refine And.intro (by omega) ?_) | (with_reducible refine exP (by omega) ?_) | (with_reducible apply And.intro))))
          all_goals
            rename_i rx _ r3 _ r4
          · subst hik
            refine nxF ⟨(r4, 0 + 1), by omega⟩ (by simp; omega) (FE.trans (FE.perm (H := [_, _, _, _, _]) (L := [(r4, _), (rc, _), (r0, _)]) (by repeat' (first | exact trivial | (refine And.intro (by simp only [hget_c, *, if_true, if_false]; rfl) (And.intro (by simp [names_cons, names_nil, *]) ?_))))) (FE.closeL2 (j := 5) (by simp [*]) rfl (by simp))) (by simp [E2]) ?_
            rw [List.take_of_length_le (by simp; omega), ← putT_take hlt]
            simp only [List.take_zero, List.nil_append, List.append_nil, List.map_append, List.map_cons, List.map_nil, putK, if_true, getD_lt hlt]
            rfl
          · refine nxF ⟨(r4, k + 1), by omega⟩ (by simp; omega) (FE.trans (FE.perm (H := [_, _, _, _, _]) (L := [(r4, _), (rc, _), (r0, _)]) (by repeat' (first | exact trivial | (refine And.intro (by simp only [hget_c, *, if_true, if_false]; rfl) (And.intro (by simp [names_cons, names_nil, *]) ?_))))) (FE.closeL2 (j := 5) (by simp [*]) rfl (by simp))) (by simp [E2]) ?_
            rw [List.take_of_length_le (by simp; omega), ← putT_take hlt]
            simp only [List.map_append, List.map_cons, List.map_nil, putK, if_neg hik, getD_lt hlt, List.append_assoc]
            rfl
        · have hki : k = sub.length := by omega
          subst hki
          ((try simp (maxSteps := 4000000) +contextual only [↓ S2, S2, vIte, ↓reduceIte, Int.reduceNe, Nat.reduceEqDiff, reduceCtorEq, Nat.reduceLeDiff, Nat.reduceAdd, Nat.reduceLT, hget_c, hset_c, hdel_c, neN, neA_cons, neA_nil, hn2, List.length_append, List.length_singleton, List.length_map, List.length_take, maxLv]); (repeat (simp only [brGen]; try simp (maxSteps := 4000000) +contextual only [↓ S2, S2, vIte, ↓reduceIte, Int.reduceNe, Nat.reduceEqDiff, reduceCtorEq, Nat.reduceLeDiff, Nat.reduceAdd, Nat.reduceLT, hget_c, hset_c, hdel_c, neN, neA_cons, neA_nil, hn2, List.length_append, List.length_singleton, List.length_map, List.length_take, maxLv])); (try simp +contextual (disch := omega) only [Z2]); (repeat' (first | (with_reducible intro h) | (with_reducible refine And.intro (by omega) ?_) | (with_reducible refine exP (by omega) ?_) | (with_reducible apply And.intro))))
          all_goals try (exfalso; omega)
          have hdl : (t.drop (i + n)).length = t.length - (i + n) := by simp
          refine wloopN mxd (ι := { y : Nat × Nat // y.2 ≤ t.length - (i + n) }) (fun y => [(1, I i), (3, .rop 1 (Tr t)), (5, .rop 1 (Tr sub)), (6, .raw 1), (7, I n), (8, .ptr r0 1 0 0), (9, I (sub.length - n)), (13, I ((i + n + y.1.2 : Nat) : Int))]) (fun y => (y.1.1, 6, ((t.take i).map F ++ (putT sub t[i] i ++ ((t.drop (i + n)).take y.1.2).map F)).map NdO) :: (r0, 1, [.own y.1.1 6 0 (i + sub.length + y.1.2)]) :: H) (fun y => t.length - y.1.2) ⟨(q2, 0), by simp⟩ (by simp [E2]) (by simp [List.take_of_length_le (Nat.le_of_eq hpl)]) ?_
          rintro ⟨⟨q3, k⟩, hk3⟩ hn3
          dsimp only at hk3 hn3 ⊢
          replace hn3 := neH_of hn3
          (replace hn3 := hn3; simp only [neH_cons, neH_nil, neA_cons, neA_nil, and_true, true_and] at hn3)
          rcases Nat.lt_or_ge k (t.length - (i + n)) with hlt | hge
          · have hkt : i + n + k < t.length := by omega
            have hxk := hx _ (List.getElem_mem hkt)
            ((try simp (maxSteps := 4000000) +contextual only [↓ S2, S2, vIte, ↓reduceIte, Int.reduceNe, Nat.reduceEqDiff, reduceCtorEq, Nat.reduceLeDiff, Nat.reduceAdd, Nat.reduceLT, hget_c, hset_c, hdel_c, neN, neA_cons, neA_nil, hn3, List.length_append, List.length_singleton, List.length_map, List.length_take, maxLv]); (repeat (simp only [brGen]; try simp (maxSteps := 4000000) +contextual only [↓ S2, S2, vIte, ↓reduceIte, Int.reduceNe, Nat.reduceEqDiff, reduceCtorEq, Nat.reduceLeDiff, Nat.reduceAdd, Nat.reduceLT, hget_c, hset_c, hdel_c, neN, neA_cons, neA_nil, hn3, List.length_append, List.length_singleton, List.length_map, List.length_take, maxLv])); (try simp +contextual (disch := omega) only [Z2]); (repeat' (first | (with_reducible intro h) | (with_reducible refine And.intro (by omega) ?_) | (with_reducible refine exP (by omega) ?_) | (with_reducible apply And.intro))))
            all_goals try (exfalso; omega)
            refine callA.of (o24 _ _ _ (hx _ (List.getElem_mem _)) _) (by rintro g H' ⟨H1, _, rfl⟩; exact ⟨H1, rfl⟩) ?_
            rintro g H' ⟨H1, ⟨rc, rfl, rfl⟩, rfl⟩ hnc
            replace hnc := neH_of hnc
            simp only [List.cons_append, List.nil_append] at hnc ⊢
            (replace hnc := hnc; simp only [neH_cons, neH_nil, neA_cons, neA_nil, and_true, true_and] at hnc)
            ((try simp (maxSteps := 4000000) +contextual only [↓ S2, S2, vIte, ↓reduceIte, Int.reduceNe, Nat.reduceEqDiff, reduceCtorEq, Nat.reduceLeDiff, Nat.reduceAdd, Nat.reduceLT, hget_c, hset_c, hdel_c, neN, neA_cons, neA_nil, hn3, hnc, List.length_append, List.length_singleton, List.length_map, List.length_take, maxLv]); (repeat (simp only [brGen]; try simp (maxSteps := 4000000) +contextual only [↓ S2, S2, vIte, ↓reduceIte, Int.reduceNe, Nat.reduceEqDiff, reduceCtorEq, Nat.reduceLeDiff, Nat.reduceAdd, Nat.reduceLT, hget_c, hset_c, hdel_c, neN, neA_cons, neA_nil, hn3, hnc, List.length_append, List.length_singleton, List.length_map, List.length_take, maxLv])); (try simp +contextual (disch := omega) only [Z2]); (repeat' (first | (with_reducible intro h) | (with_reducible refine And.intro (by omega) ?_) | (with_reducible refine exP (by omega) ?_) | (with_reducible apply And.intro))))
            all_goals try (exfalso; omega)
            rename_i r3 _ r4
            refine nxF ⟨(r4, k + 1), by omega⟩ (by simp; omega) (FE.trans (FE.perm (H := [_, _, _, _]) (L := [(r4, _), (rc, _), (r0, _)]) (by repeat' (first | exact trivial | (refine And.intro (by simp only [hget_c, *, if_true, if_false]; rfl) (And.intro (by simp [names_cons, names_nil, *]) ?_))))) (FE.closeL2 (j := 5) (by simp [*]) rfl (by simp))) (by simp [E2]; omega) ?_
            have hkd : k < (t.drop (i + n)).length := by rw [hdl]; omega
            rw [List.take_of_length_le (by simp [hpl]; omega), ← take_snocM F hkd, List.getElem_drop]
            simp only [List.map_append, List.map_cons, List.map_nil, List.append_assoc, ← hF]
            rfl
          · have hki : k = t.length - (i + n) := by omega
            subst hki
            ((try simp (maxSteps := 4000000) +contextual only [↓ S2, S2, vIte, ↓reduceIte, Int.reduceNe, Nat.reduceEqDiff, reduceCtorEq, Nat.reduceLeDiff, Nat.reduceAdd, Nat.reduceLT, hget_c, hset_c, hdel_c, neN, neA_cons, neA_nil, hn3, maxLv]); (repeat (simp only [brGen]; try simp (maxSteps := 4000000) +contextual only [↓ S2, S2, vIte, ↓reduceIte, Int.reduceNe, Nat.reduceEqDiff, reduceCtorEq, Nat.reduceLeDiff, Nat.reduceAdd, Nat.reduceLT, hget_c, hset_c, hdel_c, neN, neA_cons, neA_nil, hn3, maxLv])); (try simp +contextual (disch := omega) only [Z2]); (repeat' (first | (with_reducible intro h) | (with_reducible refine And.intro (by omega) ?_) | (with_reducible refine exP (by omega) ?_) | (with_reducible apply And.intro))))
            all_goals try (exfalso; omega)
            rw [List.take_of_length_le (Nat.le_of_eq hdl)]
            exact ⟨q3, by simp [hpl]; omega, .inr ⟨r0, _, hn3.1.1, rfl⟩⟩
    · have hre : repT t i sub = t := by simp only [repT, if_neg hc]
      rw [hre]
      have hz : ¬ (treeSize t i = 0) → ((sub.length : Int) = 0) := fun h => by
        have : 0 ≤ i ∧ i < t.length := by
          refine Classical.byContradiction fun h' => h ?_
          simp [treeSize, h']
        have : sub = [] := Classical.byContradiction fun h' => hc ⟨this.1, this.2, h'⟩
        simp [this]
      rcases Classical.em (treeSize t i = 0) with h0 | h0
      · simp only [h0]
        ((try simp (maxSteps := 4000000) +contextual only [↓ S2, S2, vIte, ↓reduceIte, Int.reduceNe, Nat.reduceEqDiff, reduceCtorEq, Nat.reduceLeDiff, Nat.reduceAdd, Nat.reduceLT, hget_c, hset_c, hdel_c, neN, neA_cons, neA_nil, h0]); (repeat (simp only [brGen]; try simp (maxSteps := 4000000) +contextual only [↓ S2, S2, vIte, ↓reduceIte, Int.reduceNe, Nat.reduceEqDiff, reduceCtorEq, Nat.reduceLeDiff, Nat.reduceAdd, Nat.reduceLT, hget_c, hset_c, hdel_c, neN, neA_cons, neA_nil, h0])); (try simp +contextual (disch := omega) only [Z2]); (repeat' (first | (with_reducible intro h) | (with_reducible refine And.intro (by omega) ?_) | (with_reducible refine exP (by omega) ?_) | (with_reducible apply And.intro))))
        refine callS.of (o23 t hl hx _) ?_
        rintro g H' ⟨r, rfl, rfl⟩ -
        ((try simp (maxSteps := 4000000) +contextual only [↓ S2, S2, vIte, ↓reduceIte, Int.reduceNe, Nat.reduceEqDiff, reduceCtorEq, Nat.reduceLeDiff, Nat.reduceAdd, Nat.reduceLT, hget_c, hset_c, hdel_c, neN, neA_cons, neA_nil, h0]); (repeat (simp only [brGen]; try simp (maxSteps := 4000000) +contextual only [↓ S2, S2, vIte, ↓reduceIte, Int.reduceNe, Nat.reduceEqDiff, reduceCtorEq, Nat.reduceLeDiff, Nat.reduceAdd, Nat.reduceLT, hget_c, hset_c, hdel_c, neN, neA_cons, neA_nil, h0])); (try simp +contextual (disch := omega) only [Z2]); (repeat' (first | (with_reducible intro h) | (with_reducible refine And.intro (by omega) ?_) | (with_reducible refine exP (by omega) ?_) | (with_reducible apply And.intro))))
        exact ⟨r, rfl, .inl rfl⟩
      · have h1 := hz h0
        ((try simp (maxSteps := 4000000) +contextual only [↓ S2, S2, vIte, ↓reduceIte, Int.reduceNe, Nat.reduceEqDiff, reduceCtorEq, Nat.reduceLeDiff, Nat.reduceAdd, Nat.reduceLT, hget_c, hset_c, hdel_c, neN, neA_cons, neA_nil, h0, h1]); (repeat (simp only [brGen]; try simp (maxSteps := 4000000) +contextual only [↓ S2, S2, vIte, ↓reduceIte, Int.reduceNe, Nat.reduceEqDiff, reduceCtorEq, Nat.reduceLeDiff, Nat.reduceAdd, Nat.reduceLT, hget_c, hset_c, hdel_c, neN, neA_cons, neA_nil, h0, h1])); (try simp +contextual (disch := omega) only [Z2]); (repeat' (first | (with_reducible intro h) | (with_reducible refine And.intro (by omega) ?_) | (with_reducible refine exP (by omega) ?_) | (with_reducible apply And.intro))))
        refine callS.of (o23 t hl hx _) ?_
        rintro g H' ⟨r, rfl, rfl⟩ -
        ((try simp (maxSteps := 4000000) +contextual only [↓ S2, S2, vIte, ↓reduceIte, Int.reduceNe, Nat.reduceEqDiff, reduceCtorEq, Nat.reduceLeDiff, Nat.reduceAdd, Nat.reduceLT, hget_c, hset_c, hdel_c, neN, neA_cons, neA_nil, h0]); (repeat (simp only [brGen]; try simp (maxSteps := 4000000) +contextual only [↓ S2, S2, vIte, ↓reduceIte, Int.reduceNe, Nat.reduceEqDiff, reduceCtorEq, Nat.reduceLeDiff, Nat.reduceAdd, Nat.reduceLT, hget_c, hset_c, hdel_c, neN, neA_cons, neA_nil, h0])); (try simp +contextual (disch := omega) only [Z2]); (repeat' (first | (with_reducible intro h) | (with_reducible refine And.intro (by omega) ?_) | (with_reducible refine exP (by omega) ?_) | (with_reducible apply And.intro))))
        exact ⟨r, rfl, .inl rfl⟩
  refine h0.fr ?_
  rintro g H' ⟨r, rfl, rfl | ⟨r0, e, hne, rfl⟩⟩
  · exact ⟨_, _, FR.refl _ _, r, rfl, rfl⟩
  · exact ⟨_, _, FR.drop (r := r0) (by rw [hget_old hne, hget_new]), r, rfl, by rw [hdel_old hne, hdel_new]⟩
end Go.Proofs.Ytfkngocbihkdfaa

