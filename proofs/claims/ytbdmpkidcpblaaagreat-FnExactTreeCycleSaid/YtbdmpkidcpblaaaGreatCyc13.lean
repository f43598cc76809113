/- The law FnExactTreeCycle returns true whatever the input, and the input reads behind the call as before. No condition. -/
import Derived.Test.YtbdmpkidcpblaaaGreatCyc12
namespace Go.Proofs.YtbdmpkidcpblaaaGreat
open Go.Gh
set_option maxRecDepth 20000
set_option linter.unusedSimpArgs false
set_option linter.unusedVariables false
theorem o206 (e : Exp) (l : List Oc) (hl : l.length ≤ 4194304) (rb q : Nat) (T : GH) : GCalls Tryz.prog 206 [Ex e, .ptr rb 1 0 0] ((q, 2, l.map Occ) :: (rb, 1, [.own q 2 0 l.length]) :: T)
    (fun v H' => ∃ q', v = B true ∧ H' = (q', 2, (l ++ occ1 e).map Occ) :: (rb, 1, [.own q' 2 0 (l ++ occ1 e).length]) :: T) := by
  refine GCalls.nd fun hn => ?_
  replace hn := neH_of hn
  (replace hn := hn; simp only [neH_cons, neH_nil, neA_cons, neA_nil, and_true, true_and] at hn)
  by_cases hk : e.kind = 3
  · have h0 : GCalls Tryz.prog 206 [Ex e, .ptr rb 1 0 0] ((q, 2, l.map Occ) :: (rb, 1, [.own q 2 0 l.length]) :: T)
        (fun v H' => ∃ q' r1 u, ¬ q' = r1 ∧ ¬ q' = rb ∧ ¬ r1 = rb ∧ v = B true ∧ H' = (q', 2, (l ++ occ1 e).map Occ) :: (r1, 2, u) :: (rb, 1, [.own q' 2 0 (l ++ occ1 e).length]) :: T) := by
      refine gstart mxd i206 rfl (by simp) ?_; simp (maxSteps := 2000000) only [↓ S2, S2, vIte, ↓reduceIte, Int.reduceNe, Nat.reduceEqDiff, reduceCtorEq, Nat.reduceLeDiff, Nat.reduceAdd, Nat.reduceLT]
      ((try with_reducible refine mkQI ?_); (repeat ((first | (with_reducible refine mkQU ?_) | simp only [brGen]); try simp (maxSteps := 4000000) +contextual only [↓ S2, S2, vIte, ↓reduceIte, Int.reduceNe, Nat.reduceEqDiff, reduceCtorEq, Nat.reduceLeDiff, Nat.reduceAdd, Nat.reduceLT, hget_c, hset_c, hdel_c, neN, neA_cons, neA_nil, XE, hk, hn, List.length_map, maxLv])); (try simp +contextual (disch := omega) only [Z2, XE, hk, hn, List.length_map, maxLv]); (repeat' (first | (with_reducible intro h) | (with_reducible refine And.intro (by omega) ?_) | (with_reducible refine exP (by omega) ?_) | (with_reducible apply And.intro))))
      rename_i r1 _ r2
      have e1 : occ1 e = [(e.pos, e.name)] := by simp [occ1, hk]
      refine ⟨r2, r1, [Occ (e.pos, e.name)], by simp [*], by simp [*], by simp [*], ?_⟩
      rw [e1, List.take_of_length_le (by simp), List.map_append, List.length_append]
      rfl
    refine h0.fr ?_
    rintro v H' ⟨q', r1, u, n1, n2, n3, rfl, rfl⟩
    exact ⟨_, _, FR.perm (H := [_, _, _]) (L := [(q', 2, (l ++ occ1 e).map Occ), (rb, 1, [.own q' 2 0 (l ++ occ1 e).length])]) (by simp [subH, hget, names, *]), q', rfl, rfl⟩
  · have e1 : occ1 e = [] := by simp [occ1, hk]
    rw [e1, List.append_nil]
    refine gstart mxd i206 rfl (by simp) ?_; simp (maxSteps := 2000000) only [↓ S2, S2, vIte, ↓reduceIte, Int.reduceNe, Nat.reduceEqDiff, reduceCtorEq, Nat.reduceLeDiff, Nat.reduceAdd, Nat.reduceLT]
    ((try with_reducible refine mkQI ?_); (repeat ((first | (with_reducible refine mkQU ?_) | simp only [brGen]); try simp (maxSteps := 4000000) +contextual only [↓ S2, S2, vIte, ↓reduceIte, Int.reduceNe, Nat.reduceEqDiff, reduceCtorEq, Nat.reduceLeDiff, Nat.reduceAdd, Nat.reduceLT, hget_c, hset_c, hdel_c, neN, neA_cons, neA_nil, XE, hk, hn])); (try simp +contextual (disch := omega) only [Z2, XE, hk, hn]); (repeat' (first | (with_reducible intro h) | (with_reducible refine And.intro (by omega) ?_) | (with_reducible refine exP (by omega) ?_) | (with_reducible apply And.intro))))
    exact ⟨q, rfl⟩
theorem o177 (t : List Exp) (f : Nat) (cs : List GV) (n0 rb : Nat) (T : GH) (hb : n0 + (occEL t).length ≤ 4194304)
    (hp : ∀ a ∈ t, ∀ (l : List Oc) (q : Nat), l.length + (occE a).length ≤ 4194304 → GCalls Tryz.prog f (Ex a :: cs) ((q, 2, l.map Occ) :: (rb, 1, [.own q 2 0 l.length]) :: T) (fun v H' => ∃ q', v = B false ∧ H' = (q', 2, (l ++ occE a).map Occ) :: (rb, 1, [.own q' 2 0 (l ++ occE a).length]) :: T))
    (l : List Oc) (q : Nat) (hl : l.length = n0) :
    GCalls Tryz.prog 177 [ExS t, .clo f cs] ((q, 2, l.map Occ) :: (rb, 1, [.own q 2 0 l.length]) :: T) (fun v H' => ∃ q', v = I (-1) ∧ H' = (q', 2, (l ++ occEL t).map Occ) :: (rb, 1, [.own q' 2 0 (l ++ occEL t).length]) :: T) := by
  refine GCalls.lenA fun hlen => ?_
  have hlen := hlen.1.1
  simp only [List.length_map, maxL] at hlen
  refine gstart mxd i177 rfl (by simp) ?_; simp (maxSteps := 2000000) only [↓ S2, S2, vIte, ↓reduceIte, Int.reduceNe, Nat.reduceEqDiff, reduceCtorEq, Nat.reduceLeDiff, Nat.reduceAdd, Nat.reduceLT]
  ((try with_reducible refine mkQI ?_); (repeat ((first | (with_reducible refine mkQU ?_) | simp only [brGen]); try simp (maxSteps := 4000000) +contextual only [↓ S2, S2, vIte, ↓reduceIte, Int.reduceNe, Nat.reduceEqDiff, reduceCtorEq, Nat.reduceLeDiff, Nat.reduceAdd, Nat.reduceLT, hget_c, hset_c, hdel_c, neN, neA_cons, neA_nil, ])); (try simp +contextual (disch := omega) only [Z2, ]); (repeat' (first | (with_reducible intro h) | (with_reducible refine And.intro (by omega) ?_) | (with_reducible refine exP (by omega) ?_) | (with_reducible apply And.intro))))
  refine wloopN mxd (ι := { y : Nat × Nat // y.2 ≤ t.length }) (fun y => [(0, ExS t), (1, .clo f cs), (7, I t.length), (8, I y.1.2)]) (fun y => (y.1.1, 2, (l ++ occEL (t.take y.1.2)).map Occ) :: (rb, 1, [.own y.1.1 2 0 (l ++ occEL (t.take y.1.2)).length]) :: T) (fun y => t.length - y.1.2) ⟨(q, 0), by simp⟩ (by simp [E2]) (by simp [occEL]) ?_
  rintro ⟨⟨q, i⟩, hi⟩ hn
  dsimp only at hi hn ⊢
  replace hn := neH_of hn
  (replace hn := hn; simp only [neH_cons, neH_nil, neA_cons, neA_nil, and_true, true_and] at hn)
  rcases Nat.lt_or_ge i t.length with h | h
  · have e1 := occEL_step h
    have e2 : (occEL (t.take (i + 1))).length ≤ (occEL t).length := by
      have e3 : t = t.take (i + 1) ++ t.drop (i + 1) := (List.take_append_drop _ _).symm
      have e4 : occEL t = occEL (t.take (i + 1)) ++ occEL (t.drop (i + 1)) := by
        conv => lhs; rw [e3]
        exact occEL_app _ _
      rw [e4, List.length_append]; omega
    have e5 : (occEL (t.take (i + 1))).length = (occEL (t.take i)).length + (occE t[i]).length := by rw [e1, List.length_append]
    ((try with_reducible refine mkQI ?_); (repeat ((first | (with_reducible refine mkQU ?_) | simp only [brGen]); try simp (maxSteps := 4000000) +contextual only [↓ S2, S2, vIte, ↓reduceIte, Int.reduceNe, Nat.reduceEqDiff, reduceCtorEq, Nat.reduceLeDiff, Nat.reduceAdd, Nat.reduceLT, hget_c, hset_c, hdel_c, neN, neA_cons, neA_nil, hn, isAgg_Ex, geR_Ex, gsize_Ex, stor_Ex])); (try simp +contextual (disch := omega) only [Z2, hn, isAgg_Ex, geR_Ex, gsize_Ex, stor_Ex]); (repeat' (first | (with_reducible intro h) | (with_reducible refine And.intro (by omega) ?_) | (with_reducible refine exP (by omega) ?_) | (with_reducible apply And.intro))))
    all_goals try (exfalso; omega)
    refine callS.of (hp t[i] (List.getElem_mem _) _ q (by rw [List.length_append]; omega)) ?_
    rintro v H' ⟨q', rfl, rfl⟩ hn2
    rw [List.append_assoc, ← e1] at hn2 ⊢
    ((try with_reducible refine mkQI ?_); (repeat ((first | (with_reducible refine mkQU ?_) | simp only [brGen]); try simp (maxSteps := 4000000) +contextual only [↓ S2, S2, vIte, ↓reduceIte, Int.reduceNe, Nat.reduceEqDiff, reduceCtorEq, Nat.reduceLeDiff, Nat.reduceAdd, Nat.reduceLT, hget_c, hset_c, hdel_c, neN, neA_cons, neA_nil, hn])); (try simp +contextual (disch := omega) only [Z2, hn]); (repeat' (first | (with_reducible intro h) | (with_reducible refine And.intro (by omega) ?_) | (with_reducible refine exP (by omega) ?_) | (with_reducible apply And.intro))))
    exact nx ⟨(q', i + 1), by omega⟩ (by simp; omega) (by simp [E2]) rfl
  · obtain rfl : i = t.length := by omega
    ((try with_reducible refine mkQI ?_); (repeat ((first | (with_reducible refine mkQU ?_) | simp only [brGen]); try simp (maxSteps := 4000000) +contextual only [↓ S2, S2, vIte, ↓reduceIte, Int.reduceNe, Nat.reduceEqDiff, reduceCtorEq, Nat.reduceLeDiff, Nat.reduceAdd, Nat.reduceLT, hget_c, hset_c, hdel_c, neN, neA_cons, neA_nil, hn])); (try simp +contextual (disch := omega) only [Z2, hn]); (repeat' (first | (with_reducible intro h) | (with_reducible refine And.intro (by omega) ?_) | (with_reducible refine exP (by omega) ?_) | (with_reducible apply And.intro))))
    all_goals try (exfalso; omega)
    rw [List.take_length]
    exact ⟨q, rfl⟩
theorem o109 (t : List Exp) (f : Nat) (cs : List GV) (n0 rb : Nat) (T : GH) (hb : n0 + (occEL t).length ≤ 4194304)
    (hp : ∀ a ∈ t, ∀ (l : List Oc) (q : Nat), l.length + (occE a).length ≤ 4194304 → GCalls Tryz.prog f (Ex a :: cs) ((q, 2, l.map Occ) :: (rb, 1, [.own q 2 0 l.length]) :: T) (fun v H' => ∃ q', v = B false ∧ H' = (q', 2, (l ++ occE a).map Occ) :: (rb, 1, [.own q' 2 0 (l ++ occE a).length]) :: T))
    (l : List Oc) (q : Nat) (hl : l.length = n0) :
    GCalls Tryz.prog 109 [ExS t, .clo f cs] ((q, 2, l.map Occ) :: (rb, 1, [.own q 2 0 l.length]) :: T) (fun v H' => ∃ q', v = B false ∧ H' = (q', 2, (l ++ occEL t).map Occ) :: (rb, 1, [.own q' 2 0 (l ++ occEL t).length]) :: T) := by
  refine gstart mxd i109 rfl (by simp) ?_; simp (maxSteps := 2000000) only [↓ S2, S2, vIte, ↓reduceIte, Int.reduceNe, Nat.reduceEqDiff, reduceCtorEq, Nat.reduceLeDiff, Nat.reduceAdd, Nat.reduceLT]
  ((try with_reducible refine mkQI ?_); (repeat ((first | (with_reducible refine mkQU ?_) | simp only [brGen]); try simp (maxSteps := 4000000) +contextual only [↓ S2, S2, vIte, ↓reduceIte, Int.reduceNe, Nat.reduceEqDiff, reduceCtorEq, Nat.reduceLeDiff, Nat.reduceAdd, Nat.reduceLT, hget_c, hset_c, hdel_c, neN, neA_cons, neA_nil, ])); (try simp +contextual (disch := omega) only [Z2, ]); (repeat' (first | (with_reducible intro h) | (with_reducible refine And.intro (by omega) ?_) | (with_reducible refine exP (by omega) ?_) | (with_reducible apply And.intro))))
  refine callS.of (o177 t f cs n0 rb T hb hp l q hl) ?_
  rintro v H' ⟨q', rfl, rfl⟩ hn2
  ((try with_reducible refine mkQI ?_); (repeat ((first | (with_reducible refine mkQU ?_) | simp only [brGen]); try simp (maxSteps := 4000000) +contextual only [↓ S2, S2, vIte, ↓reduceIte, Int.reduceNe, Nat.reduceEqDiff, reduceCtorEq, Nat.reduceLeDiff, Nat.reduceAdd, Nat.reduceLT, hget_c, hset_c, hdel_c, neN, neA_cons, neA_nil, ])); (try simp +contextual (disch := omega) only [Z2, ]); (repeat' (first | (with_reducible intro h) | (with_reducible refine And.intro (by omega) ?_) | (with_reducible refine exP (by omega) ?_) | (with_reducible apply And.intro))))
  exact ⟨q', by simp⟩
theorem o178 (rb : Nat) (T : GH) : ∀ (e : Exp) (l : List Oc) (q : Nat), l.length + (occE e).length ≤ 4194304 →
    GCalls Tryz.prog 178 [Ex e, .clo 206 [.ptr rb 1 0 0]] ((q, 2, l.map Occ) :: (rb, 1, [.own q 2 0 l.length]) :: T) (fun v H' => ∃ q', v = B true ∧ H' = (q', 2, (l ++ occE e).map Occ) :: (rb, 1, [.own q' 2 0 (l ++ occE e).length]) :: T) := by
  refine Exp.indA fun e ih l q hb => ?_
  have e0 := occE_eq e
  have e1 : (occE e).length = (occ1 e).length + (occEL e.args).length := by rw [e0, List.length_append]
  refine gstart mxd i178 rfl (by simp) ?_; simp (maxSteps := 2000000) only [↓ S2, S2, vIte, ↓reduceIte, Int.reduceNe, Nat.reduceEqDiff, reduceCtorEq, Nat.reduceLeDiff, Nat.reduceAdd, Nat.reduceLT]
  ((try with_reducible refine mkQI ?_); (repeat ((first | (with_reducible refine mkQU ?_) | simp only [brGen]); try simp (maxSteps := 4000000) +contextual only [↓ S2, S2, vIte, ↓reduceIte, Int.reduceNe, Nat.reduceEqDiff, reduceCtorEq, Nat.reduceLeDiff, Nat.reduceAdd, Nat.reduceLT, hget_c, hset_c, hdel_c, neN, neA_cons, neA_nil, XE, gs_clo])); (try simp +contextual (disch := omega) only [Z2, XE, gs_clo]); (repeat' (first | (with_reducible intro h) | (with_reducible refine And.intro (by omega) ?_) | (with_reducible refine exP (by omega) ?_) | (with_reducible apply And.intro))))
  refine callS.of (o206 e l (by omega) rb q T) ?_
  rintro v H' ⟨q', rfl, rfl⟩ hn
  replace hn := neH_of hn
  (replace hn := hn; simp only [neH_cons, neH_nil, neA_cons, neA_nil, and_true, true_and] at hn)
  ((try with_reducible refine mkQI ?_); (repeat ((first | (with_reducible refine mkQU ?_) | simp only [brGen]); try simp (maxSteps := 4000000) +contextual only [↓ S2, S2, vIte, ↓reduceIte, Int.reduceNe, Nat.reduceEqDiff, reduceCtorEq, Nat.reduceLeDiff, Nat.reduceAdd, Nat.reduceLT, hget_c, hset_c, hdel_c, neN, neA_cons, neA_nil, hn, XE])); (try simp +contextual (disch := omega) only [Z2, hn, XE]); (repeat' (first | (with_reducible intro h) | (with_reducible refine And.intro (by omega) ?_) | (with_reducible refine exP (by omega) ?_) | (with_reducible apply And.intro))))
  refine callS.of (o109 e.args 229 _ (l ++ occ1 e).length rb T (by rw [List.length_append]; omega) (fun a ha l q hb => ?_) (l ++ occ1 e) q' rfl) ?_
  · refine gstart mxd i229 rfl (by simp) ?_; simp (maxSteps := 2000000) only [↓ S2, S2, vIte, ↓reduceIte, Int.reduceNe, Nat.reduceEqDiff, reduceCtorEq, Nat.reduceLeDiff, Nat.reduceAdd, Nat.reduceLT]
    ((try with_reducible refine mkQI ?_); (repeat ((first | (with_reducible refine mkQU ?_) | simp only [brGen]); try simp (maxSteps := 4000000) +contextual only [↓ S2, S2, vIte, ↓reduceIte, Int.reduceNe, Nat.reduceEqDiff, reduceCtorEq, Nat.reduceLeDiff, Nat.reduceAdd, Nat.reduceLT, hget_c, hset_c, hdel_c, neN, neA_cons, neA_nil, XE])); (try simp +contextual (disch := omega) only [Z2, XE]); (repeat' (first | (with_reducible intro h) | (with_reducible refine And.intro (by omega) ?_) | (with_reducible refine exP (by omega) ?_) | (with_reducible apply And.intro))))
    refine callS.of (ih a ha l q hb) ?_
    rintro v H' ⟨q', rfl, rfl⟩ hn
    ((try with_reducible refine mkQI ?_); (repeat ((first | (with_reducible refine mkQU ?_) | simp only [brGen]); try simp (maxSteps := 4000000) +contextual only [↓ S2, S2, vIte, ↓reduceIte, Int.reduceNe, Nat.reduceEqDiff, reduceCtorEq, Nat.reduceLeDiff, Nat.reduceAdd, Nat.reduceLT, hget_c, hset_c, hdel_c, neN, neA_cons, neA_nil, ])); (try simp +contextual (disch := omega) only [Z2, ]); (repeat' (first | (with_reducible intro h) | (with_reducible refine And.intro (by omega) ?_) | (with_reducible refine exP (by omega) ?_) | (with_reducible apply And.intro))))
    exact ⟨q', rfl⟩
  · rintro v H' ⟨q2, rfl, rfl⟩ hn
    ((try with_reducible refine mkQI ?_); (repeat ((first | (with_reducible refine mkQU ?_) | simp only [brGen]); try simp (maxSteps := 4000000) +contextual only [↓ S2, S2, vIte, ↓reduceIte, Int.reduceNe, Nat.reduceEqDiff, reduceCtorEq, Nat.reduceLeDiff, Nat.reduceAdd, Nat.reduceLT, hget_c, hset_c, hdel_c, neN, neA_cons, neA_nil, ])); (try simp +contextual (disch := omega) only [Z2, ]); (repeat' (first | (with_reducible intro h) | (with_reducible refine And.intro (by omega) ?_) | (with_reducible refine exP (by omega) ?_) | (with_reducible apply And.intro))))
    rw [e0, List.append_assoc]
    exact ⟨q2, rfl⟩
end Go.Proofs.YtbdmpkidcpblaaaGreat

