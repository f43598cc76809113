/- The law FnExactTreeCycle returns true whatever the input, and the input reads behind the call as before. No condition. -/
import Derived.Test.YtbdmpkidcpblaaaGreatCyc10
namespace Go.Proofs.YtbdmpkidcpblaaaGreat
open Go.Gh
set_option maxRecDepth 20000
set_option linter.unusedSimpArgs false
set_option linter.unusedVariables false
theorem w280 (a b : Oc) : Pure Tryz.prog 280 [Occ a, Occ b] (· = B (ltO a b)) := by
  refine gstart mxd i280 rfl (by simp) ?_; simp (maxSteps := 2000000) only [↓ S2, S2, vIte, ↓reduceIte, Int.reduceNe, Nat.reduceEqDiff, reduceCtorEq, Nat.reduceLeDiff, Nat.reduceAdd, Nat.reduceLT]
  ((try with_reducible refine mkQI ?_); (repeat ((first | (with_reducible refine mkQU ?_) | simp only [brGen]); try simp (maxSteps := 2000000) only [↓ S2, S2, vIte, ↓reduceIte, Int.reduceNe, Nat.reduceEqDiff, reduceCtorEq, Nat.reduceLeDiff, Nat.reduceAdd, Nat.reduceLT])); (try simp +contextual (disch := omega) only [Z2]); (repeat' (first | (with_reducible intro h) | (with_reducible refine And.intro (by omega) ?_) | (with_reducible refine exP (by omega) ?_) | (with_reducible apply And.intro))))
  · simp [ltO, h]
  · rename_i h0
    simp only [ltO, decide_eq_false h0, decide_eq_true h, Bool.false_or, Bool.true_and]
    rfl
  · rename_i h0
    simp [ltO, h0, h]
set_option maxHeartbeats 8000000 in
theorem w245 (l : List Oc) (o : Oc) (hl : l.length ≤ 4194304) : Pure Tryz.prog 245 [OcS l, Occ o] (· = OcS (putO l o)) := by
  refine Pure.bor ?_
  refine gstart mxd i245 rfl (by simp) ?_; simp (maxSteps := 2000000) only [↓ S2, S2, vIte, ↓reduceIte, Int.reduceNe, Nat.reduceEqDiff, reduceCtorEq, Nat.reduceLeDiff, Nat.reduceAdd, Nat.reduceLT]
  refine wloop mxd (ι := { i : Nat // i ≤ l.length ∧ ∀ a ∈ l.take i, ltO a o = true }) (fun i => [(0, OcS l), (3, .rop 2 (Occ o)), (5, I i.1)]) (fun _ => []) (fun i => l.length - i.1) ⟨0, by simp⟩ (by simp [E2]) rfl ?_
  rintro ⟨i, hi, hp⟩
  have hsl : (l.take i).length = i := by simp; omega
  rcases Nat.lt_or_ge i l.length with h | h
  · ((try with_reducible refine mkQI ?_); (repeat ((first | (with_reducible refine mkQU ?_) | simp only [brGen]); try simp (maxSteps := 4000000) +contextual only [↓ S2, S2, vIte, ↓reduceIte, Int.reduceNe, Nat.reduceEqDiff, reduceCtorEq, Nat.reduceLeDiff, Nat.reduceAdd, Nat.reduceLT, hget_c, hset_c, hdel_c, neN, neA_cons, neA_nil, XE])); (try simp +contextual (disch := omega) only [Z2, XE]); (repeat' (first | (with_reducible intro h) | (with_reducible refine And.intro (by omega) ?_) | (with_reducible refine exP (by omega) ?_) | (with_reducible apply And.intro))))
    all_goals try (exfalso; omega)
    refine callS.eq (w280 _ _) ?_
    by_cases hb : ltO l[i] o = true
    · ((try with_reducible refine mkQI ?_); (repeat ((first | (with_reducible refine mkQU ?_) | simp only [brGen]); try simp (maxSteps := 4000000) +contextual only [↓ S2, S2, vIte, ↓reduceIte, Int.reduceNe, Nat.reduceEqDiff, reduceCtorEq, Nat.reduceLeDiff, Nat.reduceAdd, Nat.reduceLT, hget_c, hset_c, hdel_c, neN, neA_cons, neA_nil, hb])); (try simp +contextual (disch := omega) only [Z2, hb]); (repeat' (first | (with_reducible intro h) | (with_reducible refine And.intro (by omega) ?_) | (with_reducible refine exP (by omega) ?_) | (with_reducible apply And.intro))))
      exact nx ⟨i + 1, by omega, take_all_step (p := fun a => ltO a o) h hb hp⟩ (by simp; omega) (by simp [E2]) rfl
    · have hb' : ltO l[i] o = false := by simpa using hb
      have ha : atO l o = i := atO_of hi hp (fun _ => hb')
      have hpt : putO l o = if l[i] = o then l else l.take i ++ o :: l.drop i := by
        simp only [putO, ha, List.getElem?_eq_getElem h, Option.some.injEq]
      by_cases he : l[i] = o
      · have he1 : l[i].1 = o.1 := by rw [he]
        have he2 : l[i].2 = o.2 := by rw [he]
        ((try with_reducible refine mkQI ?_); (repeat ((first | (with_reducible refine mkQU ?_) | simp only [brGen]); try simp (maxSteps := 4000000) +contextual only [↓ S2, S2, vIte, ↓reduceIte, Int.reduceNe, Nat.reduceEqDiff, reduceCtorEq, Nat.reduceLeDiff, Nat.reduceAdd, Nat.reduceLT, hget_c, hset_c, hdel_c, neN, neA_cons, neA_nil, hb', he1, he2])); (try simp +contextual (disch := omega) only [Z2, hb', he1, he2]); (repeat' (first | (with_reducible intro h) | (with_reducible refine And.intro (by omega) ?_) | (with_reducible refine exP (by omega) ?_) | (with_reducible apply And.intro))))
        all_goals try (exfalso; omega)
        rw [hpt, if_pos he]
        exact .refl
      · rw [hpt, if_neg he]
        ((try with_reducible refine mkQI ?_); (repeat ((first | (with_reducible refine mkQU ?_) | simp only [brGen]); try simp (maxSteps := 4000000) +contextual only [↓ S2, S2, vIte, ↓reduceIte, Int.reduceNe, Nat.reduceEqDiff, reduceCtorEq, Nat.reduceLeDiff, Nat.reduceAdd, Nat.reduceLT, hget_c, hset_c, hdel_c, neN, neA_cons, neA_nil, hb', List.length_append, List.length_singleton, List.length_map, List.length_take, List.length_drop, maxLv])); (try simp +contextual (disch := omega) only [Z2, hb', List.length_append, List.length_singleton, List.length_map, List.length_take, List.length_drop, maxLv]); (repeat' (first | (with_reducible intro h) | (with_reducible refine And.intro (by omega) ?_) | (with_reducible refine exP (by omega) ?_) | (with_reducible apply And.intro))))
        all_goals first
          | (exfalso; exact he (Prod.ext (by assumption) (by assumption)))
          | (rw [putM hi, putN (o := o) hi]; exact Bor.allM (fun _ => rfl) hget_new rfl)
          | (exfalso; omega)
  · have hil : i = l.length := by omega
    have ha : atO l o = i := atO_of hi hp (fun h => absurd h (by omega))
    have hpt : putO l o = l.take i ++ o :: l.drop i := by
      simp only [putO, ha, List.getElem?_eq_none (by omega : l.length ≤ i)]
      rfl
    rw [hpt]
    have hni : ¬ i < l.length := by omega
    ((try with_reducible refine mkQI ?_); (repeat ((first | (with_reducible refine mkQU ?_) | simp only [brGen]); try simp (maxSteps := 4000000) +contextual only [↓ S2, S2, vIte, ↓reduceIte, Int.reduceNe, Nat.reduceEqDiff, reduceCtorEq, Nat.reduceLeDiff, Nat.reduceAdd, Nat.reduceLT, hget_c, hset_c, hdel_c, neN, neA_cons, neA_nil, hni, List.length_append, List.length_singleton, List.length_map, List.length_take, List.length_drop, maxLv])); (try simp +contextual (disch := omega) only [Z2, hni, List.length_append, List.length_singleton, List.length_map, List.length_take, List.length_drop, maxLv]); (repeat' (first | (with_reducible intro h) | (with_reducible refine And.intro (by omega) ?_) | (with_reducible refine exP (by omega) ?_) | (with_reducible apply And.intro))))
    all_goals first
      | (rw [putM hi, putN (o := o) hi]; exact Bor.allM (fun _ => rfl) hget_new rfl)
      | (exfalso; omega)
end Go.Proofs.YtbdmpkidcpblaaaGreat

namespace Go.Proofs.YtbdmpkidcpblaaaGreat
open Go.Gh
set_option maxRecDepth 20000
set_option linter.unusedSimpArgs false
set_option linter.unusedVariables false
theorem w196 : ∀ (e : Exp) (l : List Oc), wEx e ≤ 1048576 → l.length + (1 + wEx e) ≤ 4194303 → Pure Tryz.prog 196 [Ex e, OcS l] (· = OcS (usE e l)) := by
  refine Exp.indA fun e ih l hw hb => ?_
  obtain ⟨hal, haw⟩ := args_small hw
  have hwa := wEx_args e
  rw [usE_eq]
  refine gstart mxd i196 rfl (by simp) ?_; simp (maxSteps := 2000000) only [↓ S2, S2, vIte, ↓reduceIte, Int.reduceNe, Nat.reduceEqDiff, reduceCtorEq, Nat.reduceLeDiff, Nat.reduceAdd, Nat.reduceLT]
  by_cases hk : e.kind = 3
  · rw [if_pos hk]
    · have hlp := putO_len l (e.pos, e.name)
      ((try with_reducible refine mkQI ?_); (repeat ((first | (with_reducible refine mkQU ?_) | simp only [brGen]); try simp (maxSteps := 4000000) +contextual only [↓ S2, S2, vIte, ↓reduceIte, Int.reduceNe, Nat.reduceEqDiff, reduceCtorEq, Nat.reduceLeDiff, Nat.reduceAdd, Nat.reduceLT, hget_c, hset_c, hdel_c, neN, neA_cons, neA_nil, XE, hk])); (try simp +contextual (disch := omega) only [Z2, XE, hk]); (repeat' (first | (with_reducible intro h) | (with_reducible refine And.intro (by omega) ?_) | (with_reducible refine exP (by omega) ?_) | (with_reducible apply And.intro))))
      all_goals try (exfalso; omega)
      refine callS.eq (w245 l (e.pos, e.name) (by omega)) ?_
      ((try with_reducible refine mkQI ?_); (repeat ((first | (with_reducible refine mkQU ?_) | simp only [brGen]); try simp (maxSteps := 4000000) +contextual only [↓ S2, S2, vIte, ↓reduceIte, Int.reduceNe, Nat.reduceEqDiff, reduceCtorEq, Nat.reduceLeDiff, Nat.reduceAdd, Nat.reduceLT, hget_c, hset_c, hdel_c, neN, neA_cons, neA_nil, XE, hk])); (try simp +contextual (disch := omega) only [Z2, XE, hk]); (repeat' (first | (with_reducible intro h) | (with_reducible refine And.intro (by omega) ?_) | (with_reducible refine exP (by omega) ?_) | (with_reducible apply And.intro))))
      refine wloop mxd (ι := { i : Nat // i ≤ e.args.length }) (fun i => [(1, OcS (usEL (e.args.take i.1) (putO l (e.pos, e.name)))), (2, .rop 7 (Ex e)), (5, I i.1)]) (fun _ => []) (fun i => e.args.length - i.1) ⟨0, by omega⟩ (by simp [E2, usEL]) rfl ?_
      rintro ⟨i, hi⟩
      rcases Nat.lt_or_ge i e.args.length with h | h
      · have e1 := wExL_step h
        have e2 := wExL_take e.args (i + 1)
        have e3 := usEL_len (e.args.take i) (putO l (e.pos, e.name))
        have e4 : (e.args.take i).length = i := by simp; omega
        ((try with_reducible refine mkQI ?_); (repeat ((first | (with_reducible refine mkQU ?_) | simp only [brGen]); try simp (maxSteps := 4000000) +contextual only [↓ S2, S2, vIte, ↓reduceIte, Int.reduceNe, Nat.reduceEqDiff, reduceCtorEq, Nat.reduceLeDiff, Nat.reduceAdd, Nat.reduceLT, hget_c, hset_c, hdel_c, neN, neA_cons, neA_nil, XE])); (try simp +contextual (disch := omega) only [Z2, XE]); (repeat' (first | (with_reducible intro h) | (with_reducible refine And.intro (by omega) ?_) | (with_reducible refine exP (by omega) ?_) | (with_reducible apply And.intro))))
        all_goals try (exfalso; omega)
        refine callS.eq (ih e.args[i] (List.getElem_mem _) _ (haw _ (List.getElem_mem _)) (by omega)) ?_
        ((try with_reducible refine mkQI ?_); (repeat ((first | (with_reducible refine mkQU ?_) | simp only [brGen]); try simp (maxSteps := 4000000) +contextual only [↓ S2, S2, vIte, ↓reduceIte, Int.reduceNe, Nat.reduceEqDiff, reduceCtorEq, Nat.reduceLeDiff, Nat.reduceAdd, Nat.reduceLT, hget_c, hset_c, hdel_c, neN, neA_cons, neA_nil, XE])); (try simp +contextual (disch := omega) only [Z2, XE]); (repeat' (first | (with_reducible intro h) | (with_reducible refine And.intro (by omega) ?_) | (with_reducible refine exP (by omega) ?_) | (with_reducible apply And.intro))))
        exact nx ⟨i + 1, by omega⟩ (by simp; omega) (by simp [E2, usEL_step h]) rfl
      · obtain rfl : i = e.args.length := by omega
        ((try with_reducible refine mkQI ?_); (repeat ((first | (with_reducible refine mkQU ?_) | simp only [brGen]); try simp (maxSteps := 4000000) +contextual only [↓ S2, S2, vIte, ↓reduceIte, Int.reduceNe, Nat.reduceEqDiff, reduceCtorEq, Nat.reduceLeDiff, Nat.reduceAdd, Nat.reduceLT, hget_c, hset_c, hdel_c, neN, neA_cons, neA_nil, XE])); (try simp +contextual (disch := omega) only [Z2, XE]); (repeat' (first | (with_reducible intro h) | (with_reducible refine And.intro (by omega) ?_) | (with_reducible refine exP (by omega) ?_) | (with_reducible apply And.intro))))
        all_goals try (exfalso; omega)
        rw [List.take_length]
  · rw [if_neg hk]
    · ((try with_reducible refine mkQI ?_); (repeat ((first | (with_reducible refine mkQU ?_) | simp only [brGen]); try simp (maxSteps := 4000000) +contextual only [↓ S2, S2, vIte, ↓reduceIte, Int.reduceNe, Nat.reduceEqDiff, reduceCtorEq, Nat.reduceLeDiff, Nat.reduceAdd, Nat.reduceLT, hget_c, hset_c, hdel_c, neN, neA_cons, neA_nil, XE, hk])); (try simp +contextual (disch := omega) only [Z2, XE, hk]); (repeat' (first | (with_reducible intro h) | (with_reducible refine And.intro (by omega) ?_) | (with_reducible refine exP (by omega) ?_) | (with_reducible apply And.intro))))
      all_goals try (exfalso; omega)
      refine wloop mxd (ι := { i : Nat // i ≤ e.args.length }) (fun i => [(1, OcS (usEL (e.args.take i.1) l)), (2, .rop 7 (Ex e)), (5, I i.1)]) (fun _ => []) (fun i => e.args.length - i.1) ⟨0, by omega⟩ (by simp [E2, usEL]) rfl ?_
      rintro ⟨i, hi⟩
      rcases Nat.lt_or_ge i e.args.length with h | h
      · have e1 := wExL_step h
        have e2 := wExL_take e.args (i + 1)
        have e3 := usEL_len (e.args.take i) l
        have e4 : (e.args.take i).length = i := by simp; omega
        ((try with_reducible refine mkQI ?_); (repeat ((first | (with_reducible refine mkQU ?_) | simp only [brGen]); try simp (maxSteps := 4000000) +contextual only [↓ S2, S2, vIte, ↓reduceIte, Int.reduceNe, Nat.reduceEqDiff, reduceCtorEq, Nat.reduceLeDiff, Nat.reduceAdd, Nat.reduceLT, hget_c, hset_c, hdel_c, neN, neA_cons, neA_nil, XE])); (try simp +contextual (disch := omega) only [Z2, XE]); (repeat' (first | (with_reducible intro h) | (with_reducible refine And.intro (by omega) ?_) | (with_reducible refine exP (by omega) ?_) | (with_reducible apply And.intro))))
        all_goals try (exfalso; omega)
        refine callS.eq (ih e.args[i] (List.getElem_mem _) _ (haw _ (List.getElem_mem _)) (by omega)) ?_
        ((try with_reducible refine mkQI ?_); (repeat ((first | (with_reducible refine mkQU ?_) | simp only [brGen]); try simp (maxSteps := 4000000) +contextual only [↓ S2, S2, vIte, ↓reduceIte, Int.reduceNe, Nat.reduceEqDiff, reduceCtorEq, Nat.reduceLeDiff, Nat.reduceAdd, Nat.reduceLT, hget_c, hset_c, hdel_c, neN, neA_cons, neA_nil, XE])); (try simp +contextual (disch := omega) only [Z2, XE]); (repeat' (first | (with_reducible intro h) | (with_reducible refine And.intro (by omega) ?_) | (with_reducible refine exP (by omega) ?_) | (with_reducible apply And.intro))))
        exact nx ⟨i + 1, by omega⟩ (by simp; omega) (by simp [E2, usEL_step h]) rfl
      · obtain rfl : i = e.args.length := by omega
        ((try with_reducible refine mkQI ?_); (repeat ((first | (with_reducible refine mkQU ?_) | simp only [brGen]); try simp (maxSteps := 4000000) +contextual only [↓ S2, S2, vIte, ↓reduceIte, Int.reduceNe, Nat.reduceEqDiff, reduceCtorEq, Nat.reduceLeDiff, Nat.reduceAdd, Nat.reduceLT, hget_c, hset_c, hdel_c, neN, neA_cons, neA_nil, XE])); (try simp +contextual (disch := omega) only [Z2, XE]); (repeat' (first | (with_reducible intro h) | (with_reducible refine And.intro (by omega) ?_) | (with_reducible refine exP (by omega) ?_) | (with_reducible apply And.intro))))
        all_goals try (exfalso; omega)
        rw [List.take_length]
theorem w128 (e : Exp) (hw : wEx e ≤ 1048576) : Pure Tryz.prog 128 [Ex e] (· = OcS (usE e [])) := by
  refine gstart mxd i128 rfl (by simp) ?_; simp (maxSteps := 2000000) only [↓ S2, S2, vIte, ↓reduceIte, Int.reduceNe, Nat.reduceEqDiff, reduceCtorEq, Nat.reduceLeDiff, Nat.reduceAdd, Nat.reduceLT]
  ((try with_reducible refine mkQI ?_); (repeat ((first | (with_reducible refine mkQU ?_) | simp only [brGen]); try simp (maxSteps := 4000000) +contextual only [↓ S2, S2, vIte, ↓reduceIte, Int.reduceNe, Nat.reduceEqDiff, reduceCtorEq, Nat.reduceLeDiff, Nat.reduceAdd, Nat.reduceLT, hget_c, hset_c, hdel_c, neN, neA_cons, neA_nil, XE])); (try simp +contextual (disch := omega) only [Z2, XE]); (repeat' (first | (with_reducible intro h) | (with_reducible refine And.intro (by omega) ?_) | (with_reducible refine exP (by omega) ?_) | (with_reducible apply And.intro))))
  refine callS.of (Pure.froz (w196 e [] hw (by simp; omega)) (.cons .refl (.cons (Bor.allM (l := ([] : List Oc)) (f := Occ) (fun _ => rfl) hget_new rfl) .nil))) ?_
  rintro g H' ⟨rfl, rfl⟩ -
  ((try with_reducible refine mkQI ?_); (repeat ((first | (with_reducible refine mkQU ?_) | simp only [brGen]); try simp (maxSteps := 4000000) +contextual only [↓ S2, S2, vIte, ↓reduceIte, Int.reduceNe, Nat.reduceEqDiff, reduceCtorEq, Nat.reduceLeDiff, Nat.reduceAdd, Nat.reduceLT, hget_c, hset_c, hdel_c, neN, neA_cons, neA_nil, XE])); (try simp +contextual (disch := omega) only [Z2, XE]); (repeat' (first | (with_reducible intro h) | (with_reducible refine And.intro (by omega) ?_) | (with_reducible refine exP (by omega) ?_) | (with_reducible apply And.intro))))
end Go.Proofs.YtbdmpkidcpblaaaGreat

