/- The law FnExactTreeOrder returns true whatever the input, and the input reads behind the call as before. No condition. -/
import Derived.Test.YtkepdhkomchlgaaGreatCto20
namespace Go.Proofs.YtkepdhkomchlgaaGreat
open Go.Gh
set_option maxRecDepth 20000
set_option linter.unusedSimpArgs false
set_option linter.unusedVariables false
theorem o79 (k : Int) (b q : Nat) (out : List Int) (H : GH) (hb : hget H b = some (1, [.own q 1 0 out.length])) (hq : hget H q = some (1, out.map I)) :
    GCalls Tryz.prog 79 [I k, .ptr b 1 0 0] H (fun v H' => v = B (!hasI out k) ∧ H' = H) := by
  refine gstart mxd i79 rfl (by simp) ?_; simp (maxSteps := 2000000) only [↓ S2, S2, vIte, ↓reduceIte, Int.reduceNe, Nat.reduceEqDiff, reduceCtorEq, Nat.reduceLeDiff, Nat.reduceAdd, Nat.reduceLT]
  ((try with_reducible refine mkQI ?_); (repeat ((first | (with_reducible refine mkQU ?_) | simp only [brGen]); try simp (maxSteps := 4000000) +contextual only [↓ S2, S2, vIte, ↓reduceIte, Int.reduceNe, Nat.reduceEqDiff, reduceCtorEq, Nat.reduceLeDiff, Nat.reduceAdd, Nat.reduceLT, hget_c, hset_c, hdel_c, neN, neA_cons, neA_nil, hb])); (try simp +contextual (disch := omega) only [Z2, hb]); (repeat' (first | (with_reducible intro h) | (with_reducible refine And.intro (by omega) ?_) | (with_reducible refine exP (by omega) ?_) | (with_reducible apply And.intro))))
  refine callS.borA (w77 out k) (.cons (bor_IS hq rfl) (.cons .refl .nil)) rfl ?_
  rw [any_ix]
  ((try with_reducible refine mkQI ?_); (repeat ((first | (with_reducible refine mkQU ?_) | simp only [brGen]); try simp (maxSteps := 4000000) +contextual only [↓ S2, S2, vIte, ↓reduceIte, Int.reduceNe, Nat.reduceEqDiff, reduceCtorEq, Nat.reduceLeDiff, Nat.reduceAdd, Nat.reduceLT, hget_c, hset_c, hdel_c, neN, neA_cons, neA_nil, ])); (try simp +contextual (disch := omega) only [Z2, ]); (repeat' (first | (with_reducible intro h) | (with_reducible refine And.intro (by omega) ?_) | (with_reducible refine exP (by omega) ?_) | (with_reducible apply And.intro))))
  simp [hasI]
set_option maxHeartbeats 4000000 in
theorem o34 (g : Gram) (t : List Nod) (hg : smGr g) (hl : t.length ≤ 1048576) (hk : ∀ x ∈ t, x.kids.length ≤ 1048576) (H : GH) : GCalls Tryz.prog 34 [Gr g, Tr t] H (fun v H' => ∃ H1, (∃ r, v = .tup [.own r 1 0 (ordL (tabI g t)).length, B (ordB (tabI g t))] ∧ H1 = [(r, 1, (ordL (tabI g t)).map I)]) ∧ H' = H1 ++ H) := by
  have hT := tabI_ok hg t
  have q1 := q29 g t hg hl hk
  have q2 := q69 (tabI g t) hT
  have h0 : GCalls Tryz.prog 34 [Gr g, Tr t] H (fun v H' => (∃ r L, v = .tup [.own r 1 0 (ordL (tabI g t)).length, B (ordB (tabI g t))] ∧ hget L r = some (1, (ordL (tabI g t)).map I) ∧ H' = L ++ H) ∨ (ordL (tabI g t) = [] ∧ ordB (tabI g t) = false ∧ v = .tup [.val (.slice none 0 0), B false] ∧ ∃ L, H' = L ++ H)) := by
    generalize tabI g t = T at *
    have hTl := hT.1
    have hFl : (fltT T).length = T.length := by simp [fltT]
    refine gstart mxd i34 rfl (by simp) ?_; simp (maxSteps := 2000000) only [↓ S2, S2, vIte, ↓reduceIte, Int.reduceNe, Nat.reduceEqDiff, reduceCtorEq, Nat.reduceLeDiff, Nat.reduceAdd, Nat.reduceLT]
    ((try with_reducible refine mkQI ?_); (repeat ((first | (with_reducible refine mkQU ?_) | simp only [brGen]); try simp (maxSteps := 4000000) +contextual only [↓ S2, S2, vIte, ↓reduceIte, Int.reduceNe, Nat.reduceEqDiff, reduceCtorEq, Nat.reduceLeDiff, Nat.reduceAdd, Nat.reduceLT, hget_c, hset_c, hdel_c, neN, neA_cons, neA_nil, ])); (try simp +contextual (disch := omega) only [Z2, ]); (repeat' (first | (with_reducible intro h) | (with_reducible refine And.intro (by omega) ?_) | (with_reducible refine exP (by omega) ?_) | (with_reducible apply And.intro))))
    refine callS.eq q1 ?_
    ((try with_reducible refine mkQI ?_); (repeat ((first | (with_reducible refine mkQU ?_) | simp only [brGen]); try simp (maxSteps := 4000000) +contextual only [↓ S2, S2, vIte, ↓reduceIte, Int.reduceNe, Nat.reduceEqDiff, reduceCtorEq, Nat.reduceLeDiff, Nat.reduceAdd, Nat.reduceLT, hget_c, hset_c, hdel_c, neN, neA_cons, neA_nil, ])); (try simp +contextual (disch := omega) only [Z2, ]); (repeat' (first | (with_reducible intro h) | (with_reducible refine And.intro (by omega) ?_) | (with_reducible refine exP (by omega) ?_) | (with_reducible apply And.intro))))
    refine callS.eq q2 ?_
    ((try with_reducible refine mkQI ?_); (repeat ((first | (with_reducible refine mkQU ?_) | simp only [brGen]); try simp (maxSteps := 4000000) +contextual only [↓ S2, S2, vIte, ↓reduceIte, Int.reduceNe, Nat.reduceEqDiff, reduceCtorEq, Nat.reduceLeDiff, Nat.reduceAdd, Nat.reduceLT, hget_c, hset_c, hdel_c, neN, neA_cons, neA_nil, ])); (try simp +contextual (disch := omega) only [Z2, ]); (repeat' (first | (with_reducible intro h) | (with_reducible refine And.intro (by omega) ?_) | (with_reducible refine exP (by omega) ?_) | (with_reducible apply And.intro))))
    rename_i q0 _ b0
    refine wloopN mxd (ι := { y : Nat × List Int // ordI T y.2 }) (fun y => [(2, .rop 2 (Gr g)), (3, .rop 1 (Tr t)), (6, TbS (fltT T)), (7, .ptr b0 1 0 0)]) (fun y => (b0, 1, [.own y.1.1 1 0 y.1.2.length]) :: (y.1.1, 1, y.1.2.map I) :: H) (fun y => T.length - y.1.2.length) ⟨(q0, []), ordI_start T⟩ (by simp [E2]) (by simp) ?_
    rintro ⟨⟨q, out⟩, hO⟩ hn
    dsimp only at hO hn ⊢
    replace hn := neH_of hn
    (replace hn := hn; simp only [neH_cons, neH_nil, neA_cons, neA_nil, and_true, true_and] at hn)
    have hol := hO.1
    rcases Nat.lt_or_ge out.length T.length with hlt | hge
    · ((try with_reducible refine mkQI ?_); (repeat ((first | (with_reducible refine mkQU ?_) | simp only [brGen]); try simp (maxSteps := 4000000) +contextual only [↓ S2, S2, vIte, ↓reduceIte, Int.reduceNe, Nat.reduceEqDiff, reduceCtorEq, Nat.reduceLeDiff, Nat.reduceAdd, Nat.reduceLT, hget_c, hset_c, hdel_c, neN, neA_cons, neA_nil, hn, hFl])); (try simp +contextual (disch := omega) only [Z2, hn, hFl]); (repeat' (first | (with_reducible intro h) | (with_reducible refine And.intro (by omega) ?_) | (with_reducible refine exP (by omega) ?_) | (with_reducible apply And.intro))))
      all_goals try (exfalso; omega)
      refine wloop mxd (ι := { i : Nat // i ≤ T.length ∧ ∀ j, j < i → rdyT T out j = false }) (fun i => [(2, .rop 2 (Gr g)), (3, .rop 1 (Tr t)), (6, TbS (fltT T)), (7, .ptr b0 1 0 0), (8, I (-1)), (21, TbS (fltT T)), (22, I T.length), (23, I i.1)]) (fun _ => (b0, 1, [.own q 1 0 out.length]) :: (q, 1, out.map I) :: H) (fun i => T.length - i.1) ⟨0, by simp⟩ (by simp [E2]) rfl ?_
      rintro ⟨i, hi, hni⟩
      rcases Nat.lt_or_ge i T.length with hlt2 | hge2
      · have hif : i < (fltT T).length := by omega
        have hrow := fltT_get hif hlt2
        have hrd := rdyT_flt hT (out := out) hlt2
        have hc := w77 out (i : Int)
        rw [any_ix] at hc
        simp only [show (out.any fun y => decide (y = (i : Int))) = hasI out i from rfl] at hc
        ((try with_reducible refine mkQI ?_); (repeat ((first | (with_reducible refine mkQU ?_) | simp only [brGen]); try simp (maxSteps := 4000000) +contextual only [↓ S2, S2, vIte, ↓reduceIte, Int.reduceNe, Nat.reduceEqDiff, reduceCtorEq, Nat.reduceLeDiff, Nat.reduceAdd, Nat.reduceLT, hget_c, hset_c, hdel_c, neN, neA_cons, neA_nil, hn, hFl, List.length_map])); (try simp +contextual (disch := omega) only [Z2, hn, hFl, List.length_map]); (repeat' (first | (with_reducible intro h) | (with_reducible refine And.intro (by omega) ?_) | (with_reducible refine exP (by omega) ?_) | (with_reducible apply And.intro))))
        all_goals try (exfalso; omega)
        refine callS.borA hc (.cons (bor_IS (by simp [hget_c, hn]) rfl) (.cons .refl .nil)) rfl ?_
        by_cases hd : hasI out (i : Int) = true
        · rw [hd] at hrd
          ((try with_reducible refine mkQI ?_); (repeat ((first | (with_reducible refine mkQU ?_) | simp only [brGen]); try simp (maxSteps := 4000000) +contextual only [↓ S2, S2, vIte, ↓reduceIte, Int.reduceNe, Nat.reduceEqDiff, reduceCtorEq, Nat.reduceLeDiff, Nat.reduceAdd, Nat.reduceLT, hget_c, hset_c, hdel_c, neN, neA_cons, neA_nil, hn, hd])); (try simp +contextual (disch := omega) only [Z2, hn, hd]); (repeat' (first | (with_reducible intro h) | (with_reducible refine And.intro (by omega) ?_) | (with_reducible refine exP (by omega) ?_) | (with_reducible apply And.intro))))
          all_goals try (exfalso; omega)
          exact nx ⟨i + 1, by omega, lt_step hrd hni⟩ (by simp; omega) (by simp [E2]) rfl
        · have hd' : hasI out (i : Int) = false := by simpa using hd
          rw [hd'] at hrd
          simp only [Bool.not_false, Bool.true_and] at hrd
          ((try with_reducible refine mkQI ?_); (repeat ((first | (with_reducible refine mkQU ?_) | simp only [brGen]); try simp (maxSteps := 4000000) +contextual only [↓ S2, S2, vIte, ↓reduceIte, Int.reduceNe, Nat.reduceEqDiff, reduceCtorEq, Nat.reduceLeDiff, Nat.reduceAdd, Nat.reduceLT, hget_c, hset_c, hdel_c, neN, neA_cons, neA_nil, hn, hd'])); (try simp +contextual (disch := omega) only [Z2, hn, hd']); (repeat' (first | (with_reducible intro h) | (with_reducible refine And.intro (by omega) ?_) | (with_reducible refine exP (by omega) ?_) | (with_reducible apply And.intro))))
          all_goals try (exfalso; omega)
          rw [hrow]
          refine callS.of (o78 (fltR T.length T[i]) 79 [.ptr b0 1 0 0] (fun k => !hasI out k) _ (fun k _ => o79 k b0 q out _ hget_new (by simp [hget_c, hn]))) ?_
          rintro v H' ⟨rfl, rfl⟩ -
          by_cases hm : ((fltR T.length T[i]).any fun k => !hasI out k) = true
          · rw [hm] at hrd
            ((try with_reducible refine mkQI ?_); (repeat ((first | (with_reducible refine mkQU ?_) | simp only [brGen]); try simp (maxSteps := 4000000) +contextual only [↓ S2, S2, vIte, ↓reduceIte, Int.reduceNe, Nat.reduceEqDiff, reduceCtorEq, Nat.reduceLeDiff, Nat.reduceAdd, Nat.reduceLT, hget_c, hset_c, hdel_c, neN, neA_cons, neA_nil, hn, hm])); (try simp +contextual (disch := omega) only [Z2, hn, hm]); (repeat' (first | (with_reducible intro h) | (with_reducible refine And.intro (by omega) ?_) | (with_reducible refine exP (by omega) ?_) | (with_reducible apply And.intro))))
            all_goals try (exfalso; omega)
            exact nx ⟨i + 1, by omega, lt_step hrd hni⟩ (by simp; omega) (by simp [E2]) rfl
          · have hm' : ((fltR T.length T[i]).any fun k => !hasI out k) = false := by simpa using hm
            rw [hm'] at hrd
            have hfi : firstI T.length (rdyT T out) = i := firstI_hit hlt2 hrd hni
            have hnx := ordI_next hO hlt (by rw [hfi]; omega)
            rw [hfi] at hnx
            ((try with_reducible refine mkQI ?_); (repeat ((first | (with_reducible refine mkQU ?_) | simp only [brGen]); try simp (maxSteps := 4000000) +contextual only [↓ S2, S2, vIte, ↓reduceIte, Int.reduceNe, Nat.reduceEqDiff, reduceCtorEq, Nat.reduceLeDiff, Nat.reduceAdd, Nat.reduceLT, hget_c, hset_c, hdel_c, neN, neA_cons, neA_nil, hn, hm', List.length_append, List.length_singleton, List.length_map, List.length_take, maxLv])); (try simp +contextual (disch := omega) only [Z2, hn, hm', List.length_append, List.length_singleton, List.length_map, List.length_take, maxLv]); (repeat' (first | (with_reducible intro h) | (with_reducible refine And.intro (by omega) ?_) | (with_reducible refine exP (by omega) ?_) | (with_reducible apply And.intro))))
            all_goals try (exfalso; omega)
            rename_i r5 _ r6
            refine nxF ⟨(r6, out ++ [(i : Int)]), hnx⟩ (by simp; omega) (FE.perm (H := [_, _, _]) (L := [(b0, _), (r6, _)]) (by repeat' (first | exact trivial | (refine And.intro (by simp only [hget_c, *, if_true, if_false]; rfl) (And.intro (by simp [names_cons, names_nil, *]) ?_))))) (by simp [E2]) ?_
            rw [List.take_of_length_le (by simp), List.map_append, List.length_append]
            rfl
      · have hfi : firstI T.length (rdyT T out) = -1 := firstI_none fun j hj => hni j (by omega)
        obtain ⟨e1, e2⟩ := ordI_stuck hO hlt (by rw [hfi]; omega)
        rw [e1, e2]
        ((try with_reducible refine mkQI ?_); (repeat ((first | (with_reducible refine mkQU ?_) | simp only [brGen]); try simp (maxSteps := 4000000) +contextual only [↓ S2, S2, vIte, ↓reduceIte, Int.reduceNe, Nat.reduceEqDiff, reduceCtorEq, Nat.reduceLeDiff, Nat.reduceAdd, Nat.reduceLT, hget_c, hset_c, hdel_c, neN, neA_cons, neA_nil, hn, hFl])); (try simp +contextual (disch := omega) only [Z2, hn, hFl]); (repeat' (first | (with_reducible intro h) | (with_reducible refine And.intro (by omega) ?_) | (with_reducible refine exP (by omega) ?_) | (with_reducible apply And.intro))))
        all_goals try (exfalso; omega)
        exact .inr ⟨[(b0, _), (q, _)], rfl⟩
    · obtain ⟨e1, e2⟩ := ordI_end hO (by omega)
      rw [e1, e2]
      ((try with_reducible refine mkQI ?_); (repeat ((first | (with_reducible refine mkQU ?_) | simp only [brGen]); try simp (maxSteps := 4000000) +contextual only [↓ S2, S2, vIte, ↓reduceIte, Int.reduceNe, Nat.reduceEqDiff, reduceCtorEq, Nat.reduceLeDiff, Nat.reduceAdd, Nat.reduceLT, hget_c, hset_c, hdel_c, neN, neA_cons, neA_nil, hn, hFl])); (try simp +contextual (disch := omega) only [Z2, hn, hFl]); (repeat' (first | (with_reducible intro h) | (with_reducible refine And.intro (by omega) ?_) | (with_reducible refine exP (by omega) ?_) | (with_reducible apply And.intro))))
      all_goals try (exfalso; omega)
      exact .inl ⟨q, [(b0, _), (q, _)], rfl, by simp [hget, hn], rfl⟩
  refine h0.fr ?_
  rintro v H' (⟨r, L, rfl, hr, rfl⟩ | ⟨e1, e2, rfl, L, rfl⟩)
  · exact ⟨_, _, FR.perm (H := L) (L := [(r, 1, (ordL (tabI g t)).map I)]) ⟨hr, by simp [names], trivial⟩, _, ⟨r, rfl, rfl⟩, rfl⟩
  · rw [e1, e2]
    refine ⟨_, _, FR.trans (FR.perm (H := L) (L := []) trivial) (FR.trans (FR.addv (r := vname ([] ++ H)) (sz := 1) (vname_odd _) (vname_new _)) (FR.sub (.tup (.cons (Bor.virt (r := vname ([] ++ H)) (sz := 1)) (.cons .refl .nil))))), _, ⟨vname ([] ++ H), rfl, rfl⟩, rfl⟩
end Go.Proofs.YtkepdhkomchlgaaGreat

