/- The law FnExactTreeCycle returns true whatever the input, and the input reads behind the call as before. No condition. -/
import Derived.Test.YtbdmpkidcpblaaaGreatCyc7
namespace Go.Proofs.YtbdmpkidcpblaaaGreat
open Go.Gh
set_option maxRecDepth 20000
set_option linter.unusedSimpArgs false
set_option linter.unusedVariables false
theorem o253 : ∀ (e : Exp), wEx e ≤ 1048576 → ∀ H, GCalls Tryz.prog 253 [Ex e] H (fun g H' => ∃ r, g = .agg [I e.kind, I e.n, I e.pos, I e.type, T e.sym, T e.name, .own r 7 0 e.args.length] ∧ H' = (r, 7, e.args.map ExO) :: H) := by
  refine Exp.indA fun e ih hw H => ?_
  obtain ⟨hl, ha⟩ := args_small hw
  have h0 : GCalls Tryz.prog 253 [Ex e] H (fun g H' => ∃ r r0 u, ¬ r = r0 ∧ g = .agg [I e.kind, I e.n, I e.pos, I e.type, T e.sym, T e.name, .own r 7 0 e.args.length] ∧ H' = (r, 7, e.args.map ExO) :: (r0, 7, u) :: H) := by
    rw [Ex_eq]
    refine gstart mxd i253 rfl (by simp) ?_; simp (maxSteps := 2000000) only [↓ S2, S2, vIte, ↓reduceIte, Int.reduceNe, Nat.reduceEqDiff, reduceCtorEq, Nat.reduceLeDiff, Nat.reduceAdd, Nat.reduceLT]
    ((try with_reducible refine mkQI ?_); (repeat ((first | (with_reducible refine mkQU ?_) | simp only [brGen]); try simp (maxSteps := 4000000) +contextual only [↓ S2, S2, vIte, ↓reduceIte, Int.reduceNe, Nat.reduceEqDiff, reduceCtorEq, Nat.reduceLeDiff, Nat.reduceAdd, Nat.reduceLT, hget_c, hset_c, hdel_c, neN, neA_cons, neA_nil, ])); (try simp +contextual (disch := omega) only [Z2, ]); (repeat' (first | (with_reducible intro h) | (with_reducible refine And.intro (by omega) ?_) | (with_reducible refine exP (by omega) ?_) | (with_reducible apply And.intro))))
    rename_i rb
    obtain ⟨q0, ho, hq⟩ := vfresh (names ((rb, 7, [GV.agg [I e.kind, I e.n, I e.pos, I e.type, T e.sym, T e.name, ExS e.args]]) :: H))
    refine wloopF mxd (ι := { y : Nat × Nat // y.2 ≤ e.args.length }) (fun y => [(1, .ptr rb 7 0 0), (2, .raw 7), (3, .own y.1.1 7 0 y.1.2), (7, ExS e.args), (8, I e.args.length), (9, I y.1.2)]) (fun y => (y.1.1, 7, (e.args.take y.1.2).map ExO) :: (rb, 7, [.agg [I e.kind, I e.n, I e.pos, I e.type, T e.sym, T e.name, ExS e.args]]) :: H) (fun y => e.args.length - y.1.2) ⟨(q0, 0), by simp⟩ (FE.virt (j := 3) (sz := 7) rfl ho hq) (by simp [E2, eset]) rfl ?_
    rintro ⟨⟨q, k⟩, hk⟩ hn
    dsimp only at hk hn ⊢
    refine gwp_ok mxd ?_
    replace hn := neH_of hn
    (replace hn := hn; simp only [neH_cons, neH_nil, neA_cons, neA_nil, and_true, true_and] at hn)
    rcases Nat.lt_or_ge k e.args.length with hlt | hge
    · ((try with_reducible refine mkQI ?_); (repeat ((first | (with_reducible refine mkQU ?_) | simp only [brGen]); try simp (maxSteps := 4000000) +contextual only [↓ S2, S2, vIte, ↓reduceIte, Int.reduceNe, Nat.reduceEqDiff, reduceCtorEq, Nat.reduceLeDiff, Nat.reduceAdd, Nat.reduceLT, hget_c, hset_c, hdel_c, neN, neA_cons, neA_nil, hn, XE, List.length_append, List.length_singleton, List.length_map, List.length_take, maxLv])); (try simp +contextual (disch := omega) only [Z2, hn, XE, List.length_append, List.length_singleton, List.length_map, List.length_take, maxLv]); (repeat' (first | (with_reducible intro h) | (with_reducible refine And.intro (by omega) ?_) | (with_reducible refine exP (by omega) ?_) | (with_reducible apply And.intro))))
      all_goals try (exfalso; omega)
      refine callS.of (ih e.args[k] (List.getElem_mem _) (ha _ (List.getElem_mem _)) _) ?_
      rintro g H' ⟨rc, rfl, rfl⟩ hnc
      replace hnc := neH_of hnc
      (replace hnc := hnc; simp only [neH_cons, neH_nil, neA_cons, neA_nil, and_true, true_and] at hnc)
      ((try with_reducible refine mkQI ?_); (repeat ((first | (with_reducible refine mkQU ?_) | simp only [brGen]); try simp (maxSteps := 4000000) +contextual only [↓ S2, S2, vIte, ↓reduceIte, Int.reduceNe, Nat.reduceEqDiff, reduceCtorEq, Nat.reduceLeDiff, Nat.reduceAdd, Nat.reduceLT, hget_c, hset_c, hdel_c, neN, neA_cons, neA_nil, hn, hnc, List.length_append, List.length_singleton, List.length_map, List.length_take, maxLv])); (try simp +contextual (disch := omega) only [Z2, hn, hnc, List.length_append, List.length_singleton, List.length_map, List.length_take, maxLv]); (repeat' (first | (with_reducible intro h) | (with_reducible refine And.intro (by omega) ?_) | (with_reducible refine exP (by omega) ?_) | (with_reducible apply And.intro))))
      all_goals try (exfalso; omega)
      rename_i r3 _ r4
      refine nxF ⟨(r4, k + 1), by omega⟩ (by simp; omega) (FE.trans (FE.perm (H := [_, _, _, _]) (L := [(r4, _), (rc, _), (rb, _)]) (by repeat' (first | exact trivial | (refine And.intro (by simp only [hget_c, *, if_true, if_false]; try rfl) (And.intro (by simp [names_cons, names_nil, *]) ?_))))) (FE.closeL2 (j := 6) (by simp [*]) rfl (by simp))) (by simp [E2]) ?_
      rw [List.take_of_length_le (by simp; omega), ← take_snocM ExO hlt, ExO_eq]
      rfl
    · obtain rfl : k = e.args.length := by omega
      ((try with_reducible refine mkQI ?_); (repeat ((first | (with_reducible refine mkQU ?_) | simp only [brGen]); try simp (maxSteps := 4000000) +contextual only [↓ S2, S2, vIte, ↓reduceIte, Int.reduceNe, Nat.reduceEqDiff, reduceCtorEq, Nat.reduceLeDiff, Nat.reduceAdd, Nat.reduceLT, hget_c, hset_c, hdel_c, neN, neA_cons, neA_nil, hn, XE, maxLv])); (try simp +contextual (disch := omega) only [Z2, hn, XE, maxLv]); (repeat' (first | (with_reducible intro h) | (with_reducible refine And.intro (by omega) ?_) | (with_reducible refine exP (by omega) ?_) | (with_reducible apply And.intro))))
      all_goals try (exfalso; omega)
      rw [List.take_length]
      exact ⟨q, rb, _, hn.1.1, rfl, rfl⟩
  refine h0.fr ?_
  rintro g H' ⟨r, r0, u, hne, rfl, rfl⟩
  exact ⟨_, _, FR.perm (H := [_, _]) (L := [(r, 7, e.args.map ExO)]) (by simp [subH, hget, names]), r, rfl, rfl⟩
theorem w186 (r : Rul) (o : Int × ByteArray) (hr : smRu r) : Pure Tryz.prog 186 [Ru r, Occ o] (· = .tup [Ex (eqnE r o), B (eqnF r o).isSome]) := by
  refine Pure.bor ?_
  have hlen := hr.2.1
  refine gstart mxd i186 rfl (by simp) ?_; simp (maxSteps := 2000000) only [↓ S2, S2, vIte, ↓reduceIte, Int.reduceNe, Nat.reduceEqDiff, reduceCtorEq, Nat.reduceLeDiff, Nat.reduceAdd, Nat.reduceLT]
  refine wloop mxd (ι := { i : Nat // i ≤ r.eqs.length ∧ ∀ y ∈ r.eqs.take i, decide (y.pos = o.1 ∧ y.name = o.2) = false }) (fun i => [(2, .rop 6 (Ru r)), (3, .rop 2 (Occ o)), (4, .raw 7), (6, I i.1)]) (fun _ => []) (fun i => r.eqs.length - i.1) ⟨0, by simp⟩ (by simp [E2]) rfl ?_
  rintro ⟨i, hi, hn⟩
  rcases Nat.lt_or_ge i r.eqs.length with hlt | hge
  · by_cases he : r.eqs[i].pos = o.1 ∧ r.eqs[i].name = o.2
    · ((try with_reducible refine mkQI ?_); (repeat ((first | (with_reducible refine mkQU ?_) | simp only [brGen]); try simp (maxSteps := 4000000) +contextual only [↓ S2, S2, vIte, ↓reduceIte, Int.reduceNe, Nat.reduceEqDiff, reduceCtorEq, Nat.reduceLeDiff, Nat.reduceAdd, Nat.reduceLT, hget_c, hset_c, hdel_c, neN, neA_cons, neA_nil, XE, he, and_self, decide_true])); (try simp +contextual (disch := omega) only [Z2, XE, he, and_self, decide_true]); (repeat' (first | (with_reducible intro h) | (with_reducible refine And.intro (by omega) ?_) | (with_reducible refine exP (by omega) ?_) | (with_reducible apply And.intro))))
      all_goals try (exfalso; omega)
      refine callS.eq (w232 r.eqs[i].expr (hr.2.2.2.1 _ (List.getElem_mem _))) ?_
      ((try with_reducible refine mkQI ?_); (repeat ((first | (with_reducible refine mkQU ?_) | simp only [brGen]); try simp (maxSteps := 4000000) +contextual only [↓ S2, S2, vIte, ↓reduceIte, Int.reduceNe, Nat.reduceEqDiff, reduceCtorEq, Nat.reduceLeDiff, Nat.reduceAdd, Nat.reduceLT, hget_c, hset_c, hdel_c, neN, neA_cons, neA_nil, XE])); (try simp +contextual (disch := omega) only [Z2, XE]); (repeat' (first | (with_reducible intro h) | (with_reducible refine And.intro (by omega) ?_) | (with_reducible refine exP (by omega) ?_) | (with_reducible apply And.intro))))
      have e := find_hit (p := fun x : Eqn => decide (x.pos = o.1 ∧ x.name = o.2)) (xs := r.eqs) (i := i) hlt (by simp [he]) hn
      simp only [eqnE, eqnF, e]
      exact .refl
    · ((try with_reducible refine mkQI ?_); (repeat ((first | (with_reducible refine mkQU ?_) | simp only [brGen]); try simp (maxSteps := 4000000) +contextual only [↓ S2, S2, vIte, ↓reduceIte, Int.reduceNe, Nat.reduceEqDiff, reduceCtorEq, Nat.reduceLeDiff, Nat.reduceAdd, Nat.reduceLT, hget_c, hset_c, hdel_c, neN, neA_cons, neA_nil, XE])); (try simp +contextual (disch := omega) only [Z2, XE]); (repeat' (first | (with_reducible intro h) | (with_reducible refine And.intro (by omega) ?_) | (with_reducible refine exP (by omega) ?_) | (with_reducible apply And.intro))))
      all_goals first
        | exact nx ⟨i + 1, by omega, take_step hlt (by simp [he]) hn⟩ (by simp; omega) (by simp [E2]) rfl
        | (exfalso; omega)
        | (exfalso; exact he ⟨by assumption, by assumption⟩)
  · have : i = r.eqs.length := by omega
    subst this
    rw [List.take_of_length_le (Nat.le_refl _)] at hn
    have e := find_none hn
    ((try with_reducible refine mkQI ?_); (repeat ((first | (with_reducible refine mkQU ?_) | simp only [brGen]); try simp (maxSteps := 4000000) +contextual only [↓ S2, S2, vIte, ↓reduceIte, Int.reduceNe, Nat.reduceEqDiff, reduceCtorEq, Nat.reduceLeDiff, Nat.reduceAdd, Nat.reduceLT, hget_c, hset_c, hdel_c, neN, neA_cons, neA_nil, XE])); (try simp +contextual (disch := omega) only [Z2, XE]); (repeat' (first | (with_reducible intro h) | (with_reducible refine And.intro (by omega) ?_) | (with_reducible refine exP (by omega) ?_) | (with_reducible apply And.intro))))
    all_goals try (exfalso; omega)
    simp only [eqnE, eqnF, e]
    exact .tup (.cons (.agg (.cons .refl (.cons .refl (.cons .refl (.cons .refl (.cons .refl (.cons .refl (.cons .nil .nil)))))))) (.cons .refl .nil))
theorem o205 (r : Rul) (o : Int × ByteArray) (hr : smRu r) (H : GH) : GCalls Tryz.prog 205 [Ru r, Occ o] H (fun g H' => ∃ q, g = .tup [.agg [I (eqnE r o).kind, I (eqnE r o).n, I (eqnE r o).pos, I (eqnE r o).type, T (eqnE r o).sym, T (eqnE r o).name, .own q 7 0 (eqnE r o).args.length], B (eqnF r o).isSome] ∧ H' = (q, 7, (eqnE r o).args.map ExO) :: H) := by
  have h0 : GCalls Tryz.prog 205 [Ru r, Occ o] H (fun g H' => (∃ q, g = .tup [.agg [I (eqnE r o).kind, I (eqnE r o).n, I (eqnE r o).pos, I (eqnE r o).type, T (eqnE r o).sym, T (eqnE r o).name, .own q 7 0 (eqnE r o).args.length], B (eqnF r o).isSome] ∧ H' = (q, 7, (eqnE r o).args.map ExO) :: H) ∨ (eqnF r o = none ∧ g = .tup [.agg [I 0, I 0, I 0, I 0, T noS, T noS, .val (.slice none 0 0)], B false] ∧ H' = H)) := by
    have hlen := hr.2.1
    refine gstart mxd i205 rfl (by simp) ?_; simp (maxSteps := 2000000) only [↓ S2, S2, vIte, ↓reduceIte, Int.reduceNe, Nat.reduceEqDiff, reduceCtorEq, Nat.reduceLeDiff, Nat.reduceAdd, Nat.reduceLT]
    refine wloop mxd (ι := { i : Nat // i ≤ r.eqs.length ∧ ∀ y ∈ r.eqs.take i, decide (y.pos = o.1 ∧ y.name = o.2) = false }) (fun i => [(3, .rop 2 (Occ o)), (4, .raw 7), (9, QnS r.eqs), (10, I r.eqs.length), (11, I i.1)]) (fun _ => H) (fun i => r.eqs.length - i.1) ⟨0, by simp⟩ (by simp [E2]) rfl ?_
    rintro ⟨i, hi, hn⟩
    rcases Nat.lt_or_ge i r.eqs.length with hlt | hge
    · by_cases he : r.eqs[i].pos = o.1 ∧ r.eqs[i].name = o.2
      · ((try with_reducible refine mkQI ?_); (repeat ((first | (with_reducible refine mkQU ?_) | simp only [brGen]); try simp (maxSteps := 4000000) +contextual only [↓ S2, S2, vIte, ↓reduceIte, Int.reduceNe, Nat.reduceEqDiff, reduceCtorEq, Nat.reduceLeDiff, Nat.reduceAdd, Nat.reduceLT, hget_c, hset_c, hdel_c, neN, neA_cons, neA_nil, XE, he, and_self, decide_true])); (try simp +contextual (disch := omega) only [Z2, XE, he, and_self, decide_true]); (repeat' (first | (with_reducible intro h) | (with_reducible refine And.intro (by omega) ?_) | (with_reducible refine exP (by omega) ?_) | (with_reducible apply And.intro))))
        all_goals try (exfalso; omega)
        refine callS.of (o253 r.eqs[i].expr (hr.2.2.2.1 _ (List.getElem_mem _)) _) ?_
        rintro g H' ⟨q, rfl, rfl⟩ hq
        ((try with_reducible refine mkQI ?_); (repeat ((first | (with_reducible refine mkQU ?_) | simp only [brGen]); try simp (maxSteps := 4000000) +contextual only [↓ S2, S2, vIte, ↓reduceIte, Int.reduceNe, Nat.reduceEqDiff, reduceCtorEq, Nat.reduceLeDiff, Nat.reduceAdd, Nat.reduceLT, hget_c, hset_c, hdel_c, neN, neA_cons, neA_nil, XE])); (try simp +contextual (disch := omega) only [Z2, XE]); (repeat' (first | (with_reducible intro h) | (with_reducible refine And.intro (by omega) ?_) | (with_reducible refine exP (by omega) ?_) | (with_reducible apply And.intro))))
        have e := find_hit (p := fun x : Eqn => decide (x.pos = o.1 ∧ x.name = o.2)) (xs := r.eqs) (i := i) hlt (by simp [he]) hn
        simp only [eqnE, eqnF, e]
        exact .inl ⟨q, rfl, rfl⟩
      · ((try with_reducible refine mkQI ?_); (repeat ((first | (with_reducible refine mkQU ?_) | simp only [brGen]); try simp (maxSteps := 4000000) +contextual only [↓ S2, S2, vIte, ↓reduceIte, Int.reduceNe, Nat.reduceEqDiff, reduceCtorEq, Nat.reduceLeDiff, Nat.reduceAdd, Nat.reduceLT, hget_c, hset_c, hdel_c, neN, neA_cons, neA_nil, XE])); (try simp +contextual (disch := omega) only [Z2, XE]); (repeat' (first | (with_reducible intro h) | (with_reducible refine And.intro (by omega) ?_) | (with_reducible refine exP (by omega) ?_) | (with_reducible apply And.intro))))
        all_goals first
          | exact nx ⟨i + 1, by omega, take_step hlt (by simp [he]) hn⟩ (by simp; omega) (by simp [E2]) rfl
          | (exfalso; omega)
          | (exfalso; exact he ⟨by assumption, by assumption⟩)
    · have : i = r.eqs.length := by omega
      subst this
      rw [List.take_of_length_le (Nat.le_refl _)] at hn
      have e := find_none hn
      ((try with_reducible refine mkQI ?_); (repeat ((first | (with_reducible refine mkQU ?_) | simp only [brGen]); try simp (maxSteps := 4000000) +contextual only [↓ S2, S2, vIte, ↓reduceIte, Int.reduceNe, Nat.reduceEqDiff, reduceCtorEq, Nat.reduceLeDiff, Nat.reduceAdd, Nat.reduceLT, hget_c, hset_c, hdel_c, neN, neA_cons, neA_nil, XE])); (try simp +contextual (disch := omega) only [Z2, XE]); (repeat' (first | (with_reducible intro h) | (with_reducible refine And.intro (by omega) ?_) | (with_reducible refine exP (by omega) ?_) | (with_reducible apply And.intro))))
      all_goals try (exfalso; omega)
      exact .inr ⟨e, rfl⟩
  refine h0.fr ?_
  rintro g H' (⟨q, rfl, rfl⟩ | ⟨e, rfl, rfl⟩)
  · exact ⟨_, _, FR.refl _ _, q, rfl, rfl⟩
  · refine ⟨_, _, FR.trans (FR.addv (r := vname H') (sz := 7) (vname_odd H') (vname_new H')) (FR.sub (.tup (.cons (.agg (nilL_bor (l := [_, _, _, _, _, _]) (r := vname H') (sz := 7))) (.cons .refl .nil)))), vname H', ?_, ?_⟩
    · simp only [eqnE, e]; rfl
    · simp only [eqnE, e]; rfl
end Go.Proofs.YtbdmpkidcpblaaaGreat

