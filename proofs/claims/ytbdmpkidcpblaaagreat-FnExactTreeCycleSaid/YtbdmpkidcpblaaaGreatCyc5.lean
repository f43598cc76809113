/- The law FnExactTreeCycle returns true whatever the input, and the input reads behind the call as before. No condition. -/
import Derived.Test.YtbdmpkidcpblaaaGreatCyc4
namespace Go.Proofs.YtbdmpkidcpblaaaGreat
open Go.Gh
set_option maxRecDepth 20000
set_option linter.unusedSimpArgs false
set_option linter.unusedVariables false
theorem w82 (r n : Nat) (k : Int) (es : List ByteArray) (H : GH) (hr : hget H r = some (1, es.map T)) (hn : es.length = n) (hk : 0 ≤ k) (hb : k + smw wS es < 9223372036854775807) :
    GCalls Tryz.prog 82 [.own r 1 0 n, I k] H (fun g H' => g = I (k + smw wS es) ∧ H' = hset H r ((smk wS mkTx es k).map T)) := by
  refine gstart mxd i82 rfl (by simp) ?_; simp (maxSteps := 2000000) only [↓ S2, S2, vIte, ↓reduceIte, Int.reduceNe, Nat.reduceEqDiff, reduceCtorEq, Nat.reduceLeDiff, Nat.reduceAdd, Nat.reduceLT]
  refine wloop mxd (ι := { i : Nat // i ≤ n }) (fun i => [(0, .own r 1 0 n), (1, I (k + smw wS (es.take i.1))), (5, I i.1)]) (fun i => hset H r ((smk wS mkTx (es.take i.1) k ++ es.drop i.1).map T)) (fun i => n - i.1) ⟨0, by omega⟩ (by simp [E2, smw]) (by simp [smk]; rw [hset_self hr]) ?_
  rintro ⟨i, hi⟩
  rcases Nat.lt_or_ge i n with h | h
  · have ht : i < es.length := by omega
    have e1 : smw wS (es.take (i + 1)) = smw wS (es.take i) + 1 := smw_step wS ht
    have e2 := smw_take wS es (i + 1)
    have e3 := smw_len wS (fun _ => by simp [wS, wI, wA]) es
    have hl : (smk wS mkTx (es.take i) k ++ es.drop i).length = es.length := smid_len wS mkTx
    ((try with_reducible refine mkQI ?_); (repeat ((first | (with_reducible refine mkQU ?_) | simp only [brGen]); try simp (maxSteps := 2000000) only [↓ S2, S2, vIte, ↓reduceIte, Int.reduceNe, Nat.reduceEqDiff, reduceCtorEq, Nat.reduceLeDiff, Nat.reduceAdd, Nat.reduceLT, hget_set hr, hset_set])); (try simp +contextual (disch := omega) only [Z2, hget_set hr, hset_set]); (repeat' (first | (with_reducible intro h) | (with_reducible refine And.intro (by omega) ?_) | (with_reducible refine exP (by omega) ?_) | (with_reducible apply And.intro))))
    · refine callS.eq (w80 _ (by omega)) ?_
      ((try with_reducible refine mkQI ?_); (repeat ((first | (with_reducible refine mkQU ?_) | simp only [brGen]); try simp (maxSteps := 2000000) only [↓ S2, S2, vIte, ↓reduceIte, Int.reduceNe, Nat.reduceEqDiff, reduceCtorEq, Nat.reduceLeDiff, Nat.reduceAdd, Nat.reduceLT, hget_set hr, hset_set])); (try simp +contextual (disch := omega) only [Z2, hget_set hr, hset_set]); (repeat' (first | (with_reducible intro h) | (with_reducible refine And.intro (by omega) ?_) | (with_reducible refine exP (by omega) ?_) | (with_reducible apply And.intro))))
      refine nx ⟨i + 1, by omega⟩ (by simp; omega) (by simp [E2]; omega) ?_
      rw [← smid_set wS mkTx ht, List.map_set]
    all_goals (exfalso; omega)
  · have : i = n := by omega
    subst this
    ((try with_reducible refine mkQI ?_); (repeat ((first | (with_reducible refine mkQU ?_) | simp only [brGen]); try simp (maxSteps := 2000000) only [↓ S2, S2, vIte, ↓reduceIte, Int.reduceNe, Nat.reduceEqDiff, reduceCtorEq, Nat.reduceLeDiff, Nat.reduceAdd, Nat.reduceLT, hget_set hr, hset_set])); (try simp +contextual (disch := omega) only [Z2, hget_set hr, hset_set]); (repeat' (first | (with_reducible intro h) | (with_reducible refine And.intro (by omega) ?_) | (with_reducible refine exP (by omega) ?_) | (with_reducible apply And.intro))))
    · rw [List.take_of_length_le (by omega)]
    · rw [List.take_of_length_le (by omega), List.drop_of_length_le (by omega), List.append_nil]
theorem w81 (r n : Nat) (k : Int) (es : List Att) (H : GH) (hr : hget H r = some (4, es.map At)) (hn : es.length = n) (hk : 0 ≤ k) (hb : k + smw wA es < 9223372036854775807) :
    GCalls Tryz.prog 81 [.own r 4 0 n, I k] H (fun g H' => g = I (k + smw wA es) ∧ H' = hset H r ((smk wA mkA es k).map At)) := by
  refine gstart mxd i81 rfl (by simp) ?_; simp (maxSteps := 2000000) only [↓ S2, S2, vIte, ↓reduceIte, Int.reduceNe, Nat.reduceEqDiff, reduceCtorEq, Nat.reduceLeDiff, Nat.reduceAdd, Nat.reduceLT]
  refine wloop mxd (ι := { i : Nat // i ≤ n }) (fun i => [(0, .own r 4 0 n), (1, I (k + smw wA (es.take i.1))), (5, I i.1)]) (fun i => hset H r ((smk wA mkA (es.take i.1) k ++ es.drop i.1).map At)) (fun i => n - i.1) ⟨0, by omega⟩ (by simp [E2, smw]) (by simp [smk]; rw [hset_self hr]) ?_
  rintro ⟨i, hi⟩
  rcases Nat.lt_or_ge i n with h | h
  · have ht : i < es.length := by omega
    have e1 : smw wA (es.take (i + 1)) = smw wA (es.take i) + 4 := smw_step wA ht
    have e2 := smw_take wA es (i + 1)
    have e3 := smw_len wA (fun _ => by simp [wS, wI, wA]) es
    have hl : (smk wA mkA (es.take i) k ++ es.drop i).length = es.length := smid_len wA mkA
    ((try with_reducible refine mkQI ?_); (repeat ((first | (with_reducible refine mkQU ?_) | simp only [brGen]); try simp (maxSteps := 2000000) only [↓ S2, S2, vIte, ↓reduceIte, Int.reduceNe, Nat.reduceEqDiff, reduceCtorEq, Nat.reduceLeDiff, Nat.reduceAdd, Nat.reduceLT, hget_set hr, hset_set, List.getElem_set_self, List.set_set, List.length_set])); (try simp +contextual (disch := omega) only [Z2, hget_set hr, hset_set, List.getElem_set_self, List.set_set, List.length_set]); (repeat' (first | (with_reducible intro h) | (with_reducible refine And.intro (by omega) ?_) | (with_reducible refine exP (by omega) ?_) | (with_reducible apply And.intro))))
    · refine callS.eq (w80 _ (by omega)) ?_
      ((try with_reducible refine mkQI ?_); (repeat ((first | (with_reducible refine mkQU ?_) | simp only [brGen]); try simp (maxSteps := 2000000) only [↓ S2, S2, vIte, ↓reduceIte, Int.reduceNe, Nat.reduceEqDiff, reduceCtorEq, Nat.reduceLeDiff, Nat.reduceAdd, Nat.reduceLT, hget_set hr, hset_set, List.getElem_set_self, List.set_set, List.length_set])); (try simp +contextual (disch := omega) only [Z2, hget_set hr, hset_set, List.getElem_set_self, List.set_set, List.length_set]); (repeat' (first | (with_reducible intro h) | (with_reducible refine And.intro (by omega) ?_) | (with_reducible refine exP (by omega) ?_) | (with_reducible apply And.intro))))
      refine nx ⟨i + 1, by omega⟩ (by simp; omega) (by simp [E2]; omega) ?_
      rw [← smid_set wA mkA ht, List.map_set]
    all_goals (exfalso; omega)
  · have : i = n := by omega
    subst this
    ((try with_reducible refine mkQI ?_); (repeat ((first | (with_reducible refine mkQU ?_) | simp only [brGen]); try simp (maxSteps := 2000000) only [↓ S2, S2, vIte, ↓reduceIte, Int.reduceNe, Nat.reduceEqDiff, reduceCtorEq, Nat.reduceLeDiff, Nat.reduceAdd, Nat.reduceLT, hget_set hr, hset_set])); (try simp +contextual (disch := omega) only [Z2, hget_set hr, hset_set]); (repeat' (first | (with_reducible intro h) | (with_reducible refine And.intro (by omega) ?_) | (with_reducible refine exP (by omega) ?_) | (with_reducible apply And.intro))))
    · rw [List.take_of_length_le (by omega)]
    · rw [List.take_of_length_le (by omega), List.drop_of_length_le (by omega), List.append_nil]
theorem w41 (r n : Nat) (k : Int) (es : List Sym) (H : GH) (hr : hget H r = some (2, es.map SyO)) (hn : es.length = n) (hk : 0 ≤ k) (hb : k + smw wSym es < 9223372036854775807) :
    GCalls Tryz.prog 41 [.own r 2 0 n, I k] H (fun g H' => g = I (k + smw wSym es) ∧ H' = hset H r ((smk wSym mkSym es k).map SyO)) := by
  refine gstart mxd i41 rfl (by simp) ?_; simp (maxSteps := 2000000) only [↓ S2, S2, vIte, ↓reduceIte, Int.reduceNe, Nat.reduceEqDiff, reduceCtorEq, Nat.reduceLeDiff, Nat.reduceAdd, Nat.reduceLT]
  refine wloopF mxd (ι := { i : Nat // i ≤ n }) (fun i => [(0, .own r 2 0 n), (1, I (k + smw wSym (es.take i.1))), (5, I i.1)]) (fun i => hset H r ((smk wSym mkSym (es.take i.1) k ++ es.drop i.1).map SyO)) (fun i => n - i.1) ⟨0, by omega⟩ FE.refl (by simp [E2, smw]) (by simp [smk]; rw [hset_self hr]) ?_
  rintro ⟨i, hi⟩ hnd
  dsimp only at hnd ⊢
  rcases Nat.lt_or_ge i n with h | h
  · have ht : i < es.length := by omega
    have hml : (smk wSym mkSym (es.take i) k ++ es.drop i).length = es.length := smid_len wSym mkSym
    have hmid : i < (smk wSym mkSym (es.take i) k ++ es.drop i).length := by rw [hml]; exact ht
    have e1 : smw wSym (es.take (i + 1)) = smw wSym (es.take i) + (1 + smw wA es[i].atts) := smw_step wSym ht
    have e2 := smw_take wSym es (i + 1)
    have e3 := smw_len wSym (fun x => by show 1 ≤ 1 + _; omega) es
    refine GW.opn (r := r) (i := i) (j := 1) (hget_set hr) (by rw [List.getElem?_map, List.getElem?_eq_getElem hmid, smid_get _ _ ht]; rfl) rfl fun r1 hn1 => ?_
    have hne : r1 ≠ r := ne_of_new hn1 (hget_set hr)
    rw [hset_set]
    refine gwp_ok mxd ?_
    ((try with_reducible refine mkQI ?_); (repeat ((first | (with_reducible refine mkQU ?_) | simp only [brGen]); try simp (maxSteps := 2000000) only [↓ S2, S2, vIte, ↓reduceIte, Int.reduceNe, Nat.reduceEqDiff, reduceCtorEq, Nat.reduceLeDiff, Nat.reduceAdd, Nat.reduceLT, hget_old hne, hset_old hne, hget_set hr, hset_set, List.getElem_set_self, List.set_set, List.length_set])); (try simp +contextual (disch := omega) only [Z2, hget_old hne, hset_old hne, hget_set hr, hset_set, List.getElem_set_self, List.set_set, List.length_set]); (repeat' (first | (with_reducible intro h) | (with_reducible refine And.intro (by omega) ?_) | (with_reducible refine exP (by omega) ?_) | (with_reducible apply And.intro))))
    all_goals try (exfalso; omega)
    refine callS.eq (w80 _ (by omega)) ?_
    ((try with_reducible refine mkQI ?_); (repeat ((first | (with_reducible refine mkQU ?_) | simp only [brGen]); try simp (maxSteps := 2000000) only [↓ S2, S2, vIte, ↓reduceIte, Int.reduceNe, Nat.reduceEqDiff, reduceCtorEq, Nat.reduceLeDiff, Nat.reduceAdd, Nat.reduceLT, hget_old hne, hset_old hne, hget_set hr, hset_set, List.getElem_set_self, List.set_set, List.length_set])); (try simp +contextual (disch := omega) only [Z2, hget_old hne, hset_old hne, hget_set hr, hset_set, List.getElem_set_self, List.set_set, List.length_set]); (repeat' (first | (with_reducible intro h) | (with_reducible refine And.intro (by omega) ?_) | (with_reducible refine exP (by omega) ?_) | (with_reducible apply And.intro))))
    all_goals try (exfalso; omega)
    refine callS.of (w81 r1 _ _ es[i].atts _ hget_new (by simp) (by omega) (by omega)) ?_
    rintro g H' ⟨rfl, rfl⟩ -
    rw [hset_new]
    ((try with_reducible refine mkQI ?_); (repeat ((first | (with_reducible refine mkQU ?_) | simp only [brGen]); try simp (maxSteps := 2000000) only [↓ S2, S2, vIte, ↓reduceIte, Int.reduceNe, Nat.reduceEqDiff, reduceCtorEq, Nat.reduceLeDiff, Nat.reduceAdd, Nat.reduceLT, hget_old hne, hset_old hne, hget_set hr, hset_set, List.getElem_set_self, List.set_set, List.length_set])); (try simp +contextual (disch := omega) only [Z2, hget_old hne, hset_old hne, hget_set hr, hset_set, List.getElem_set_self, List.set_set, List.length_set]); (repeat' (first | (with_reducible intro h) | (with_reducible refine And.intro (by omega) ?_) | (with_reducible refine exP (by omega) ?_) | (with_reducible apply And.intro))))
    all_goals try (exfalso; omega)
    refine nxF ⟨i + 1, by omega⟩ (by simp; omega) (FE.close3 hr hne (j := 1) (by simpa using hmid) rfl (by simp [smk_len])) (by simp [E2]; omega) ?_
    show hset H r ((List.map SyO _).set i (SyO (mkSym es[i] (k + smw wSym (es.take i))))) = _
    rw [← List.map_set, smid_set wSym mkSym ht]
  · have : i = n := by omega
    subst this
    refine gwp_ok mxd ?_
    ((try with_reducible refine mkQI ?_); (repeat ((first | (with_reducible refine mkQU ?_) | simp only [brGen]); try simp (maxSteps := 2000000) only [↓ S2, S2, vIte, ↓reduceIte, Int.reduceNe, Nat.reduceEqDiff, reduceCtorEq, Nat.reduceLeDiff, Nat.reduceAdd, Nat.reduceLT])); (try simp +contextual (disch := omega) only [Z2]); (repeat' (first | (with_reducible intro h) | (with_reducible refine And.intro (by omega) ?_) | (with_reducible refine exP (by omega) ?_) | (with_reducible apply And.intro))))
    · rw [List.take_of_length_le (by omega)]
    · rw [List.take_of_length_le (by omega), List.drop_of_length_le (by omega), List.append_nil]
theorem wa146 : ∀ (e : Exp) (r n : Nat) (k : Int) (H : GH) (_ : hget H r = some (7, e.args.map ExO)) (_ : e.args.length = n) (_ : 0 ≤ k) (_ : k + smw ctE e.args < 9223372036854775807),
    GCalls Tryz.prog 146 [.own r 7 0 n, I k] H (fun g H' => g = I (k + smw ctE e.args) ∧ H' = hset H r ((smk ctE mkE e.args k).map ExO)) := by
  refine Exp.indA fun e ih => ?_
  intro r n k H hr hn hk hb
  generalize e.args = es at *
  refine gstart mxd i146 rfl (by simp) ?_; simp (maxSteps := 2000000) only [↓ S2, S2, vIte, ↓reduceIte, Int.reduceNe, Nat.reduceEqDiff, reduceCtorEq, Nat.reduceLeDiff, Nat.reduceAdd, Nat.reduceLT]
  refine wloopF mxd (ι := { i : Nat // i ≤ n }) (fun i => [(0, .own r 7 0 n), (1, I (k + smw ctE (es.take i.1))), (5, I i.1)]) (fun i => hset H r ((smk ctE mkE (es.take i.1) k ++ es.drop i.1).map ExO)) (fun i => n - i.1) ⟨0, by omega⟩ FE.refl (by simp [E2, smw]) (by simp [smk]; rw [hset_self hr]) ?_
  rintro ⟨i, hi⟩ hnd
  dsimp only at hnd ⊢
  rcases Nat.lt_or_ge i n with h | h
  · have ht : i < es.length := by omega
    have hml : (smk ctE mkE (es.take i) k ++ es.drop i).length = es.length := smid_len ctE mkE
    have hmid : i < (smk ctE mkE (es.take i) k ++ es.drop i).length := by rw [hml]; exact ht
    have e0 := ctE_eq es[i]
    have e1 : smw ctE (es.take (i + 1)) = smw ctE (es.take i) + (ctE es[i]) := smw_step ctE ht
    have e2 := smw_take ctE es (i + 1)
    have e3 := smw_len ctE (fun x => by rw [ctE_eq]; omega) es
    refine GW.opn (r := r) (i := i) (j := 6) (hget_set hr) (by rw [List.getElem?_map, List.getElem?_eq_getElem hmid, smid_get _ _ ht]; exact congrArg some (ExO_eq es[i])) rfl fun r1 hn1 => ?_
    have hne : r1 ≠ r := ne_of_new hn1 (hget_set hr)
    rw [hset_set]
    refine gwp_ok mxd ?_
    ((try with_reducible refine mkQI ?_); (repeat ((first | (with_reducible refine mkQU ?_) | simp only [brGen]); try simp (maxSteps := 2000000) only [↓ S2, S2, vIte, ↓reduceIte, Int.reduceNe, Nat.reduceEqDiff, reduceCtorEq, Nat.reduceLeDiff, Nat.reduceAdd, Nat.reduceLT, hget_old hne, hset_old hne, hget_set hr, hset_set, List.getElem_set_self, List.set_set, List.length_set])); (try simp +contextual (disch := omega) only [Z2, hget_old hne, hset_old hne, hget_set hr, hset_set, List.getElem_set_self, List.set_set, List.length_set]); (repeat' (first | (with_reducible intro h) | (with_reducible refine And.intro (by omega) ?_) | (with_reducible refine exP (by omega) ?_) | (with_reducible apply And.intro))))
    all_goals try (exfalso; omega)
    refine callS.eq (w80 _ (by omega)) ?_
    ((try with_reducible refine mkQI ?_); (repeat ((first | (with_reducible refine mkQU ?_) | simp only [brGen]); try simp (maxSteps := 2000000) only [↓ S2, S2, vIte, ↓reduceIte, Int.reduceNe, Nat.reduceEqDiff, reduceCtorEq, Nat.reduceLeDiff, Nat.reduceAdd, Nat.reduceLT, hget_old hne, hset_old hne, hget_set hr, hset_set, List.getElem_set_self, List.set_set, List.length_set])); (try simp +contextual (disch := omega) only [Z2, hget_old hne, hset_old hne, hget_set hr, hset_set, List.getElem_set_self, List.set_set, List.length_set]); (repeat' (first | (with_reducible intro h) | (with_reducible refine And.intro (by omega) ?_) | (with_reducible refine exP (by omega) ?_) | (with_reducible apply And.intro))))
    all_goals try (exfalso; omega)
    refine callS.eq (w80 _ (by omega)) ?_
    ((try with_reducible refine mkQI ?_); (repeat ((first | (with_reducible refine mkQU ?_) | simp only [brGen]); try simp (maxSteps := 2000000) only [↓ S2, S2, vIte, ↓reduceIte, Int.reduceNe, Nat.reduceEqDiff, reduceCtorEq, Nat.reduceLeDiff, Nat.reduceAdd, Nat.reduceLT, hget_old hne, hset_old hne, hget_set hr, hset_set, List.getElem_set_self, List.set_set, List.length_set])); (try simp +contextual (disch := omega) only [Z2, hget_old hne, hset_old hne, hget_set hr, hset_set, List.getElem_set_self, List.set_set, List.length_set]); (repeat' (first | (with_reducible intro h) | (with_reducible refine And.intro (by omega) ?_) | (with_reducible refine exP (by omega) ?_) | (with_reducible apply And.intro))))
    all_goals try (exfalso; omega)
    refine callS.of (ih es[i] (List.getElem_mem _) r1 _ _ _ hget_new (by simp) (by omega) (by omega)) ?_
    rintro g H' ⟨rfl, rfl⟩ -
    rw [hset_new]
    ((try with_reducible refine mkQI ?_); (repeat ((first | (with_reducible refine mkQU ?_) | simp only [brGen]); try simp (maxSteps := 2000000) only [↓ S2, S2, vIte, ↓reduceIte, Int.reduceNe, Nat.reduceEqDiff, reduceCtorEq, Nat.reduceLeDiff, Nat.reduceAdd, Nat.reduceLT, hget_old hne, hset_old hne, hget_set hr, hset_set, List.getElem_set_self, List.set_set, List.length_set])); (try simp +contextual (disch := omega) only [Z2, hget_old hne, hset_old hne, hget_set hr, hset_set, List.getElem_set_self, List.set_set, List.length_set]); (repeat' (first | (with_reducible intro h) | (with_reducible refine And.intro (by omega) ?_) | (with_reducible refine exP (by omega) ?_) | (with_reducible apply And.intro))))
    all_goals try (exfalso; omega)
    refine nxF ⟨i + 1, by omega⟩ (by simp; omega) (FE.close3 hr hne (j := 6) (by simpa using hmid) rfl (by simp [smk_len])) (by simp [E2]; omega) ?_
    rw [← smid_set ctE mkE ht, List.map_set, mkE_eq, ExO_eq]
    rfl
  · have : i = n := by omega
    subst this
    refine gwp_ok mxd ?_
    ((try with_reducible refine mkQI ?_); (repeat ((first | (with_reducible refine mkQU ?_) | simp only [brGen]); try simp (maxSteps := 2000000) only [↓ S2, S2, vIte, ↓reduceIte, Int.reduceNe, Nat.reduceEqDiff, reduceCtorEq, Nat.reduceLeDiff, Nat.reduceAdd, Nat.reduceLT])); (try simp +contextual (disch := omega) only [Z2]); (repeat' (first | (with_reducible intro h) | (with_reducible refine And.intro (by omega) ?_) | (with_reducible refine exP (by omega) ?_) | (with_reducible apply And.intro))))
    · rw [List.take_of_length_le (by omega)]
    · rw [List.take_of_length_le (by omega), List.drop_of_length_le (by omega), List.append_nil]
theorem w146 (r n : Nat) (k : Int) (es : List Exp) (H : GH) (hr : hget H r = some (7, es.map ExO)) (hn : es.length = n) (hk : 0 ≤ k) (hb : k + smw ctE es < 9223372036854775807) :
    GCalls Tryz.prog 146 [.own r 7 0 n, I k] H (fun g H' => g = I (k + smw ctE es) ∧ H' = hset H r ((smk ctE mkE es k).map ExO)) :=
  wa146 (.mk 0 0 0 0 noS noS es) r n k H hr hn hk hb
theorem w83 (r n : Nat) (k : Int) (es : List Eqn) (H : GH) (hr : hget H r = some (9, es.map QnO)) (hn : es.length = n) (hk : 0 ≤ k) (hb : k + smw wQ es < 9223372036854775807) :
    GCalls Tryz.prog 83 [.own r 9 0 n, I k] H (fun g H' => g = I (k + smw wQ es) ∧ H' = hset H r ((smk wQ mkQ es k).map QnO)) := by
  refine gstart mxd i83 rfl (by simp) ?_; simp (maxSteps := 2000000) only [↓ S2, S2, vIte, ↓reduceIte, Int.reduceNe, Nat.reduceEqDiff, reduceCtorEq, Nat.reduceLeDiff, Nat.reduceAdd, Nat.reduceLT]
  refine wloopF mxd (ι := { i : Nat // i ≤ n }) (fun i => [(0, .own r 9 0 n), (1, I (k + smw wQ (es.take i.1))), (5, I i.1)]) (fun i => hset H r ((smk wQ mkQ (es.take i.1) k ++ es.drop i.1).map QnO)) (fun i => n - i.1) ⟨0, by omega⟩ FE.refl (by simp [E2, smw]) (by simp [smk]; rw [hset_self hr]) ?_
  rintro ⟨i, hi⟩ hnd
  dsimp only at hnd ⊢
  rcases Nat.lt_or_ge i n with h | h
  · have ht : i < es.length := by omega
    have hml : (smk wQ mkQ (es.take i) k ++ es.drop i).length = es.length := smid_len wQ mkQ
    have hmid : i < (smk wQ mkQ (es.take i) k ++ es.drop i).length := by rw [hml]; exact ht
    have e0 := ctE_eq es[i].expr
    have e1 : smw wQ (es.take (i + 1)) = smw wQ (es.take i) + (2 + ctE es[i].expr) := smw_step wQ ht
    have e2 := smw_take wQ es (i + 1)
    have e3 := smw_len wQ (fun x => by show 1 ≤ 2 + _; omega) es
    refine GW.opn (r := r) (i := i) (j := 8) (hget_set hr) (by rw [List.getElem?_map, List.getElem?_eq_getElem hmid, smid_get _ _ ht]; rfl) rfl fun r1 hn1 => ?_
    have hne : r1 ≠ r := ne_of_new hn1 (hget_set hr)
    rw [hset_set]
    refine gwp_ok mxd ?_
    ((try with_reducible refine mkQI ?_); (repeat ((first | (with_reducible refine mkQU ?_) | simp only [brGen]); try simp (maxSteps := 2000000) only [↓ S2, S2, vIte, ↓reduceIte, Int.reduceNe, Nat.reduceEqDiff, reduceCtorEq, Nat.reduceLeDiff, Nat.reduceAdd, Nat.reduceLT, hget_old hne, hset_old hne, hget_set hr, hset_set, List.getElem_set_self, List.set_set, List.length_set])); (try simp +contextual (disch := omega) only [Z2, hget_old hne, hset_old hne, hget_set hr, hset_set, List.getElem_set_self, List.set_set, List.length_set]); (repeat' (first | (with_reducible intro h) | (with_reducible refine And.intro (by omega) ?_) | (with_reducible refine exP (by omega) ?_) | (with_reducible apply And.intro))))
    all_goals try (exfalso; omega)
    refine callS.eq (w80 _ (by omega)) ?_
    ((try with_reducible refine mkQI ?_); (repeat ((first | (with_reducible refine mkQU ?_) | simp only [brGen]); try simp (maxSteps := 2000000) only [↓ S2, S2, vIte, ↓reduceIte, Int.reduceNe, Nat.reduceEqDiff, reduceCtorEq, Nat.reduceLeDiff, Nat.reduceAdd, Nat.reduceLT, hget_old hne, hset_old hne, hget_set hr, hset_set, List.getElem_set_self, List.set_set, List.length_set])); (try simp +contextual (disch := omega) only [Z2, hget_old hne, hset_old hne, hget_set hr, hset_set, List.getElem_set_self, List.set_set, List.length_set]); (repeat' (first | (with_reducible intro h) | (with_reducible refine And.intro (by omega) ?_) | (with_reducible refine exP (by omega) ?_) | (with_reducible apply And.intro))))
    all_goals try (exfalso; omega)
    refine callS.eq (w80 _ (by omega)) ?_
    ((try with_reducible refine mkQI ?_); (repeat ((first | (with_reducible refine mkQU ?_) | simp only [brGen]); try simp (maxSteps := 2000000) only [↓ S2, S2, vIte, ↓reduceIte, Int.reduceNe, Nat.reduceEqDiff, reduceCtorEq, Nat.reduceLeDiff, Nat.reduceAdd, Nat.reduceLT, hget_old hne, hset_old hne, hget_set hr, hset_set, List.getElem_set_self, List.set_set, List.length_set])); (try simp +contextual (disch := omega) only [Z2, hget_old hne, hset_old hne, hget_set hr, hset_set, List.getElem_set_self, List.set_set, List.length_set]); (repeat' (first | (with_reducible intro h) | (with_reducible refine And.intro (by omega) ?_) | (with_reducible refine exP (by omega) ?_) | (with_reducible apply And.intro))))
    all_goals try (exfalso; omega)
    refine callS.eq (w80 _ (by omega)) ?_
    ((try with_reducible refine mkQI ?_); (repeat ((first | (with_reducible refine mkQU ?_) | simp only [brGen]); try simp (maxSteps := 2000000) only [↓ S2, S2, vIte, ↓reduceIte, Int.reduceNe, Nat.reduceEqDiff, reduceCtorEq, Nat.reduceLeDiff, Nat.reduceAdd, Nat.reduceLT, hget_old hne, hset_old hne, hget_set hr, hset_set, List.getElem_set_self, List.set_set, List.length_set])); (try simp +contextual (disch := omega) only [Z2, hget_old hne, hset_old hne, hget_set hr, hset_set, List.getElem_set_self, List.set_set, List.length_set]); (repeat' (first | (with_reducible intro h) | (with_reducible refine And.intro (by omega) ?_) | (with_reducible refine exP (by omega) ?_) | (with_reducible apply And.intro))))
    all_goals try (exfalso; omega)
    refine callS.of (w146 r1 _ _ es[i].expr.args _ hget_new (by simp) (by omega) (by omega)) ?_
    rintro g H' ⟨rfl, rfl⟩ -
    rw [hset_new]
    ((try with_reducible refine mkQI ?_); (repeat ((first | (with_reducible refine mkQU ?_) | simp only [brGen]); try simp (maxSteps := 2000000) only [↓ S2, S2, vIte, ↓reduceIte, Int.reduceNe, Nat.reduceEqDiff, reduceCtorEq, Nat.reduceLeDiff, Nat.reduceAdd, Nat.reduceLT, hget_old hne, hset_old hne, hget_set hr, hset_set, List.getElem_set_self, List.set_set, List.length_set])); (try simp +contextual (disch := omega) only [Z2, hget_old hne, hset_old hne, hget_set hr, hset_set, List.getElem_set_self, List.set_set, List.length_set]); (repeat' (first | (with_reducible intro h) | (with_reducible refine And.intro (by omega) ?_) | (with_reducible refine exP (by omega) ?_) | (with_reducible apply And.intro))))
    all_goals try (exfalso; omega)
    refine nxF ⟨i + 1, by omega⟩ (by simp; omega) (FE.close3 hr hne (j := 8) (by simpa using hmid) rfl (by simp [smk_len])) (by simp [E2]; omega) ?_
    have ee : mkQ es[i] (k + smw wQ (es.take i)) = _ := (congrArg (Eqn.mk _ _) (mkE_eq _ _))
    rw [← smid_set wQ mkQ ht, List.map_set, ee]
    rfl
  · have : i = n := by omega
    subst this
    refine gwp_ok mxd ?_
    ((try with_reducible refine mkQI ?_); (repeat ((first | (with_reducible refine mkQU ?_) | simp only [brGen]); try simp (maxSteps := 2000000) only [↓ S2, S2, vIte, ↓reduceIte, Int.reduceNe, Nat.reduceEqDiff, reduceCtorEq, Nat.reduceLeDiff, Nat.reduceAdd, Nat.reduceLT])); (try simp +contextual (disch := omega) only [Z2]); (repeat' (first | (with_reducible intro h) | (with_reducible refine And.intro (by omega) ?_) | (with_reducible refine exP (by omega) ?_) | (with_reducible apply And.intro))))
    · rw [List.take_of_length_le (by omega)]
    · rw [List.take_of_length_le (by omega), List.drop_of_length_le (by omega), List.append_nil]
theorem w84 (r n : Nat) (k : Int) (es : List Con) (H : GH) (hr : hget H r = some (16, es.map CoO)) (hn : es.length = n) (hk : 0 ≤ k) (hb : k + smw wC es < 9223372036854775807) :
    GCalls Tryz.prog 84 [.own r 16 0 n, I k] H (fun g H' => g = I (k + smw wC es) ∧ H' = hset H r ((smk wC mkC es k).map CoO)) := by
  refine gstart mxd i84 rfl (by simp) ?_; simp (maxSteps := 2000000) only [↓ S2, S2, vIte, ↓reduceIte, Int.reduceNe, Nat.reduceEqDiff, reduceCtorEq, Nat.reduceLeDiff, Nat.reduceAdd, Nat.reduceLT]
  refine wloopF mxd (ι := { i : Nat // i ≤ n }) (fun i => [(0, .own r 16 0 n), (1, I (k + smw wC (es.take i.1))), (5, I i.1)]) (fun i => hset H r ((smk wC mkC (es.take i.1) k ++ es.drop i.1).map CoO)) (fun i => n - i.1) ⟨0, by omega⟩ FE.refl (by simp [E2, smw]) (by simp [smk]; rw [hset_self hr]) ?_
  rintro ⟨i, hi⟩ hnd
  dsimp only at hnd ⊢
  rcases Nat.lt_or_ge i n with h | h
  · have ht : i < es.length := by omega
    have hml : (smk wC mkC (es.take i) k ++ es.drop i).length = es.length := smid_len wC mkC
    have hmid : i < (smk wC mkC (es.take i) k ++ es.drop i).length := by rw [hml]; exact ht
    have e0 := ctE_eq es[i].goal
    have e00 := ctE_eq es[i].value
    have e1 : smw wC (es.take (i + 1)) = smw wC (es.take i) + (2 + ctE es[i].goal + ctE es[i].value) := smw_step wC ht
    have e2 := smw_take wC es (i + 1)
    have e3 := smw_len wC (fun x => by show 1 ≤ 2 + _ + _; omega) es
    refine GW.opn (r := r) (i := i) (j := 8) (hget_set hr) (by rw [List.getElem?_map, List.getElem?_eq_getElem hmid, smid_get _ _ ht]; rfl) rfl fun r1 hn1 => ?_
    have hne1 : r1 ≠ r := ne_of_new hn1 (hget_set hr)
    rw [hset_set]
    refine GW.opn (r := r) (i := i) (j := 15) (by rw [hget_old hne1, hget_set hr]) (List.getElem?_set_self (by simpa using hmid)) rfl fun r2 hn2 => ?_
    have hne2 : r2 ≠ r := ne_of_new hn2 (by rw [hget_old hne1, hget_set hr])
    have hne21 : r2 ≠ r1 := ne_of_new hn2 hget_new
    rw [hset_old hne1, hset_set, List.set_set]
    refine gwp_ok mxd ?_
    ((try with_reducible refine mkQI ?_); (repeat ((first | (with_reducible refine mkQU ?_) | simp only [brGen]); try simp (maxSteps := 2000000) only [↓ S2, S2, vIte, ↓reduceIte, Int.reduceNe, Nat.reduceEqDiff, reduceCtorEq, Nat.reduceLeDiff, Nat.reduceAdd, Nat.reduceLT, hget_old hne1, hset_old hne1, hget_old hne2, hset_old hne2, hget_old hne21, hset_old hne21, hget_set hr, hset_set, List.getElem_set_self, List.set_set, List.length_set])); (try simp +contextual (disch := omega) only [Z2, hget_old hne1, hset_old hne1, hget_old hne2, hset_old hne2, hget_old hne21, hset_old hne21, hget_set hr, hset_set, List.getElem_set_self, List.set_set, List.length_set]); (repeat' (first | (with_reducible intro h) | (with_reducible refine And.intro (by omega) ?_) | (with_reducible refine exP (by omega) ?_) | (with_reducible apply And.intro))))
    all_goals try (exfalso; omega)
    iterate 4
      (refine callS.eq (w80 _ (by omega)) ?_
       ((try with_reducible refine mkQI ?_); (repeat ((first | (with_reducible refine mkQU ?_) | simp only [brGen]); try simp (maxSteps := 2000000) only [↓ S2, S2, vIte, ↓reduceIte, Int.reduceNe, Nat.reduceEqDiff, reduceCtorEq, Nat.reduceLeDiff, Nat.reduceAdd, Nat.reduceLT, hget_old hne1, hset_old hne1, hget_old hne2, hset_old hne2, hget_old hne21, hset_old hne21, hget_set hr, hset_set, List.getElem_set_self, List.set_set, List.length_set])); (try simp +contextual (disch := omega) only [Z2, hget_old hne1, hset_old hne1, hget_old hne2, hset_old hne2, hget_old hne21, hset_old hne21, hget_set hr, hset_set, List.getElem_set_self, List.set_set, List.length_set]); (repeat' (first | (with_reducible intro h) | (with_reducible refine And.intro (by omega) ?_) | (with_reducible refine exP (by omega) ?_) | (with_reducible apply And.intro)))))
    all_goals try (exfalso; omega)
    refine callS.of (w146 r1 _ _ es[i].goal.args _ (by rw [hget_old hne21, hget_new]) (by simp) (by omega) (by omega)) ?_
    rintro g H' ⟨rfl, rfl⟩ -
    rw [hset_old hne21, hset_new]
    ((try with_reducible refine mkQI ?_); (repeat ((first | (with_reducible refine mkQU ?_) | simp only [brGen]); try simp (maxSteps := 2000000) only [↓ S2, S2, vIte, ↓reduceIte, Int.reduceNe, Nat.reduceEqDiff, reduceCtorEq, Nat.reduceLeDiff, Nat.reduceAdd, Nat.reduceLT, hget_old hne1, hset_old hne1, hget_old hne2, hset_old hne2, hget_old hne21, hset_old hne21, hget_set hr, hset_set, List.getElem_set_self, List.set_set, List.length_set])); (try simp +contextual (disch := omega) only [Z2, hget_old hne1, hset_old hne1, hget_old hne2, hset_old hne2, hget_old hne21, hset_old hne21, hget_set hr, hset_set, List.getElem_set_self, List.set_set, List.length_set]); (repeat' (first | (with_reducible intro h) | (with_reducible refine And.intro (by omega) ?_) | (with_reducible refine exP (by omega) ?_) | (with_reducible apply And.intro))))
    all_goals try (exfalso; omega)
    iterate 2
      (refine callS.eq (w80 _ (by omega)) ?_
       ((try with_reducible refine mkQI ?_); (repeat ((first | (with_reducible refine mkQU ?_) | simp only [brGen]); try simp (maxSteps := 2000000) only [↓ S2, S2, vIte, ↓reduceIte, Int.reduceNe, Nat.reduceEqDiff, reduceCtorEq, Nat.reduceLeDiff, Nat.reduceAdd, Nat.reduceLT, hget_old hne1, hset_old hne1, hget_old hne2, hset_old hne2, hget_old hne21, hset_old hne21, hget_set hr, hset_set, List.getElem_set_self, List.set_set, List.length_set])); (try simp +contextual (disch := omega) only [Z2, hget_old hne1, hset_old hne1, hget_old hne2, hset_old hne2, hget_old hne21, hset_old hne21, hget_set hr, hset_set, List.getElem_set_self, List.set_set, List.length_set]); (repeat' (first | (with_reducible intro h) | (with_reducible refine And.intro (by omega) ?_) | (with_reducible refine exP (by omega) ?_) | (with_reducible apply And.intro)))))
    all_goals try (exfalso; omega)
    refine callS.of (w146 r2 _ _ es[i].value.args _ hget_new (by simp) (by omega) (by omega)) ?_
    rintro g H' ⟨rfl, rfl⟩ -
    rw [hset_new]
    ((try with_reducible refine mkQI ?_); (repeat ((first | (with_reducible refine mkQU ?_) | simp only [brGen]); try simp (maxSteps := 2000000) only [↓ S2, S2, vIte, ↓reduceIte, Int.reduceNe, Nat.reduceEqDiff, reduceCtorEq, Nat.reduceLeDiff, Nat.reduceAdd, Nat.reduceLT, hget_old hne1, hset_old hne1, hget_old hne2, hset_old hne2, hget_old hne21, hset_old hne21, hget_set hr, hset_set, List.getElem_set_self, List.set_set, List.length_set])); (try simp +contextual (disch := omega) only [Z2, hget_old hne1, hset_old hne1, hget_old hne2, hset_old hne2, hget_old hne21, hset_old hne21, hget_set hr, hset_set, List.getElem_set_self, List.set_set, List.length_set]); (repeat' (first | (with_reducible intro h) | (with_reducible refine And.intro (by omega) ?_) | (with_reducible refine exP (by omega) ?_) | (with_reducible apply And.intro))))
    all_goals try (exfalso; omega)
    refine nxF ⟨i + 1, by omega⟩ (by simp; omega) (FE.trans (FE.closeT (r := r) (j := 15) (i := i) hne2 (by rw [hget_old hne1, hget_set hr]) (by simpa using hmid) rfl (by simp [smk_len])) (by rw [hset_old hne1, hset_set]; exact FE.closeT (r := r) (j := 8) (i := i) hne1 (hget_set hr) (by simpa using hmid) rfl (by simp [smk_len]))) (by simp [E2]; omega) ?_
    have ee := congr (congrArg (Con.mk (mtext (k + smw wC (es.take i))) (mtext (k + smw wC (es.take i) + 1))) (mkE_eq es[i].goal (k + smw wC (es.take i) + 1 + 1))) (mkE_eq es[i].value (k + smw wC (es.take i) + 1 + 1 + 1 + 1 + 1 + 1 + 1 + 1 + smw ctE es[i].goal.args))
    rw [← smid_set wC mkC ht, List.map_set, show mkC es[i] (k + smw wC (es.take i)) = _ from ee, hset_set]
    rfl
  · have : i = n := by omega
    subst this
    refine gwp_ok mxd ?_
    ((try with_reducible refine mkQI ?_); (repeat ((first | (with_reducible refine mkQU ?_) | simp only [brGen]); try simp (maxSteps := 2000000) only [↓ S2, S2, vIte, ↓reduceIte, Int.reduceNe, Nat.reduceEqDiff, reduceCtorEq, Nat.reduceLeDiff, Nat.reduceAdd, Nat.reduceLT])); (try simp +contextual (disch := omega) only [Z2]); (repeat' (first | (with_reducible intro h) | (with_reducible refine And.intro (by omega) ?_) | (with_reducible refine exP (by omega) ?_) | (with_reducible apply And.intro))))
    · rw [List.take_of_length_le (by omega)]
    · rw [List.take_of_length_le (by omega), List.drop_of_length_le (by omega), List.append_nil]
theorem w42 (r n : Nat) (k : Int) (es : List Rul) (H : GH) (hr : hget H r = some (6, es.map RuO)) (hn : es.length = n) (hk : 0 ≤ k) (hb : k + smw wR es < 9223372036854775807) :
    GCalls Tryz.prog 42 [.own r 6 0 n, I k] H (fun g H' => g = I (k + smw wR es) ∧ H' = hset H r ((smk wR mkR es k).map RuO)) := by
  refine gstart mxd i42 rfl (by simp) ?_; simp (maxSteps := 2000000) only [↓ S2, S2, vIte, ↓reduceIte, Int.reduceNe, Nat.reduceEqDiff, reduceCtorEq, Nat.reduceLeDiff, Nat.reduceAdd, Nat.reduceLT]
  refine wloopF mxd (ι := { i : Nat // i ≤ n }) (fun i => [(0, .own r 6 0 n), (1, I (k + smw wR (es.take i.1))), (5, I i.1)]) (fun i => hset H r ((smk wR mkR (es.take i.1) k ++ es.drop i.1).map RuO)) (fun i => n - i.1) ⟨0, by omega⟩ FE.refl (by simp [E2, smw]) (by simp [smk]; rw [hset_self hr]) ?_
  rintro ⟨i, hi⟩ hnd
  dsimp only at hnd ⊢
  rcases Nat.lt_or_ge i n with h | h
  · have ht : i < es.length := by omega
    have hml : (smk wR mkR (es.take i) k ++ es.drop i).length = es.length := smid_len wR mkR
    have hmid : i < (smk wR mkR (es.take i) k ++ es.drop i).length := by rw [hml]; exact ht
    have e1 : smw wR (es.take (i + 1)) = smw wR (es.take i) + (3 + smw wS es[i].right + smw wQ es[i].eqs + smw wC es[i].cons) := smw_step wR ht
    have e2 := smw_take wR es (i + 1)
    have e3 := smw_len wR (fun x => by show 1 ≤ 3 + _ + _ + _; omega) es
    refine GW.opn (r := r) (i := i) (j := 2) (hget_set hr) (by rw [List.getElem?_map, List.getElem?_eq_getElem hmid, smid_get _ _ ht]; rfl) rfl fun r1 hn1 => ?_
    have hne1 : r1 ≠ r := ne_of_new hn1 (hget_set hr)
    rw [hset_set]
    refine GW.opn (r := r) (i := i) (j := 4) (by rw [hget_old hne1, hget_set hr]) (List.getElem?_set_self (by simpa using hmid)) rfl fun r2 hn2 => ?_
    have hne2 : r2 ≠ r := ne_of_new hn2 (by rw [hget_old hne1, hget_set hr])
    have hne21 : r2 ≠ r1 := ne_of_new hn2 hget_new
    rw [hset_old hne1, hset_set, List.set_set]
    refine GW.opn (r := r) (i := i) (j := 5) (by rw [hget_old hne2, hget_old hne1, hget_set hr]) (List.getElem?_set_self (by simpa using hmid)) rfl fun r3 hn3 => ?_
    have hne3 : r3 ≠ r := ne_of_new hn3 (by rw [hget_old hne2, hget_old hne1, hget_set hr])
    have hne31 : r3 ≠ r1 := ne_of_new hn3 (by rw [hget_old hne21, hget_new])
    have hne32 : r3 ≠ r2 := ne_of_new hn3 hget_new
    rw [hset_old hne2, hset_old hne1, hset_set, List.set_set]
    refine gwp_ok mxd ?_
    ((try with_reducible refine mkQI ?_); (repeat ((first | (with_reducible refine mkQU ?_) | simp only [brGen]); try simp (maxSteps := 2000000) only [↓ S2, S2, vIte, ↓reduceIte, Int.reduceNe, Nat.reduceEqDiff, reduceCtorEq, Nat.reduceLeDiff, Nat.reduceAdd, Nat.reduceLT, hget_old hne1, hset_old hne1, hget_old hne2, hset_old hne2, hget_old hne21, hset_old hne21, hget_old hne3, hset_old hne3, hget_old hne31, hset_old hne31, hget_old hne32, hset_old hne32, hset_new, hget_new, hget_set hr, hset_set, List.getElem_set_self, List.set_set, List.length_set])); (try simp +contextual (disch := omega) only [Z2, hget_old hne1, hset_old hne1, hget_old hne2, hset_old hne2, hget_old hne21, hset_old hne21, hget_old hne3, hset_old hne3, hget_old hne31, hset_old hne31, hget_old hne32, hset_old hne32, hset_new, hget_new, hget_set hr, hset_set, List.getElem_set_self, List.set_set, List.length_set]); (repeat' (first | (with_reducible intro h) | (with_reducible refine And.intro (by omega) ?_) | (with_reducible refine exP (by omega) ?_) | (with_reducible apply And.intro))))
    all_goals try (exfalso; omega)
    iterate 2
      (refine callS.eq (w80 _ (by omega)) ?_
       ((try with_reducible refine mkQI ?_); (repeat ((first | (with_reducible refine mkQU ?_) | simp only [brGen]); try simp (maxSteps := 2000000) only [↓ S2, S2, vIte, ↓reduceIte, Int.reduceNe, Nat.reduceEqDiff, reduceCtorEq, Nat.reduceLeDiff, Nat.reduceAdd, Nat.reduceLT, hget_old hne1, hset_old hne1, hget_old hne2, hset_old hne2, hget_old hne21, hset_old hne21, hget_old hne3, hset_old hne3, hget_old hne31, hset_old hne31, hget_old hne32, hset_old hne32, hset_new, hget_new, hget_set hr, hset_set, List.getElem_set_self, List.set_set, List.length_set])); (try simp +contextual (disch := omega) only [Z2, hget_old hne1, hset_old hne1, hget_old hne2, hset_old hne2, hget_old hne21, hset_old hne21, hget_old hne3, hset_old hne3, hget_old hne31, hset_old hne31, hget_old hne32, hset_old hne32, hset_new, hget_new, hget_set hr, hset_set, List.getElem_set_self, List.set_set, List.length_set]); (repeat' (first | (with_reducible intro h) | (with_reducible refine And.intro (by omega) ?_) | (with_reducible refine exP (by omega) ?_) | (with_reducible apply And.intro)))))
    all_goals try (exfalso; omega)
    refine callS.of (w82 r1 _ _ es[i].right _ (by rw [hget_old hne31, hget_old hne21, hget_new]) (by simp) (by omega) (by omega)) ?_
    rintro g H' ⟨rfl, rfl⟩ -
    rw [hset_old hne31, hset_old hne21, hset_new]
    ((try with_reducible refine mkQI ?_); (repeat ((first | (with_reducible refine mkQU ?_) | simp only [brGen]); try simp (maxSteps := 2000000) only [↓ S2, S2, vIte, ↓reduceIte, Int.reduceNe, Nat.reduceEqDiff, reduceCtorEq, Nat.reduceLeDiff, Nat.reduceAdd, Nat.reduceLT, hget_old hne1, hset_old hne1, hget_old hne2, hset_old hne2, hget_old hne21, hset_old hne21, hget_old hne3, hset_old hne3, hget_old hne31, hset_old hne31, hget_old hne32, hset_old hne32, hset_new, hget_new, hget_set hr, hset_set, List.getElem_set_self, List.set_set, List.length_set])); (try simp +contextual (disch := omega) only [Z2, hget_old hne1, hset_old hne1, hget_old hne2, hset_old hne2, hget_old hne21, hset_old hne21, hget_old hne3, hset_old hne3, hget_old hne31, hset_old hne31, hget_old hne32, hset_old hne32, hset_new, hget_new, hget_set hr, hset_set, List.getElem_set_self, List.set_set, List.length_set]); (repeat' (first | (with_reducible intro h) | (with_reducible refine And.intro (by omega) ?_) | (with_reducible refine exP (by omega) ?_) | (with_reducible apply And.intro))))
    all_goals try (exfalso; omega)
    refine callS.of (w83 r2 _ _ es[i].eqs _ (by rw [hget_old hne32, hget_new]) (by simp) (by omega) (by omega)) ?_
    rintro g H' ⟨rfl, rfl⟩ -
    rw [hset_old hne32, hset_new]
    ((try with_reducible refine mkQI ?_); (repeat ((first | (with_reducible refine mkQU ?_) | simp only [brGen]); try simp (maxSteps := 2000000) only [↓ S2, S2, vIte, ↓reduceIte, Int.reduceNe, Nat.reduceEqDiff, reduceCtorEq, Nat.reduceLeDiff, Nat.reduceAdd, Nat.reduceLT, hget_old hne1, hset_old hne1, hget_old hne2, hset_old hne2, hget_old hne21, hset_old hne21, hget_old hne3, hset_old hne3, hget_old hne31, hset_old hne31, hget_old hne32, hset_old hne32, hset_new, hget_new, hget_set hr, hset_set, List.getElem_set_self, List.set_set, List.length_set])); (try simp +contextual (disch := omega) only [Z2, hget_old hne1, hset_old hne1, hget_old hne2, hset_old hne2, hget_old hne21, hset_old hne21, hget_old hne3, hset_old hne3, hget_old hne31, hset_old hne31, hget_old hne32, hset_old hne32, hset_new, hget_new, hget_set hr, hset_set, List.getElem_set_self, List.set_set, List.length_set]); (repeat' (first | (with_reducible intro h) | (with_reducible refine And.intro (by omega) ?_) | (with_reducible refine exP (by omega) ?_) | (with_reducible apply And.intro))))
    all_goals try (exfalso; omega)
    refine callS.of (w84 r3 _ _ es[i].cons _ hget_new (by simp) (by omega) (by omega)) ?_
    rintro g H' ⟨rfl, rfl⟩ -
    rw [hset_new]
    ((try with_reducible refine mkQI ?_); (repeat ((first | (with_reducible refine mkQU ?_) | simp only [brGen]); try simp (maxSteps := 2000000) only [↓ S2, S2, vIte, ↓reduceIte, Int.reduceNe, Nat.reduceEqDiff, reduceCtorEq, Nat.reduceLeDiff, Nat.reduceAdd, Nat.reduceLT, hget_old hne1, hset_old hne1, hget_old hne2, hset_old hne2, hget_old hne21, hset_old hne21, hget_old hne3, hset_old hne3, hget_old hne31, hset_old hne31, hget_old hne32, hset_old hne32, hset_new, hget_new, hget_set hr, hset_set, List.getElem_set_self, List.set_set, List.length_set])); (try simp +contextual (disch := omega) only [Z2, hget_old hne1, hset_old hne1, hget_old hne2, hset_old hne2, hget_old hne21, hset_old hne21, hget_old hne3, hset_old hne3, hget_old hne31, hset_old hne31, hget_old hne32, hset_old hne32, hset_new, hget_new, hget_set hr, hset_set, List.getElem_set_self, List.set_set, List.length_set]); (repeat' (first | (with_reducible intro h) | (with_reducible refine And.intro (by omega) ?_) | (with_reducible refine exP (by omega) ?_) | (with_reducible apply And.intro))))
    all_goals try (exfalso; omega)
    refine nxF ⟨i + 1, by omega⟩ (by simp; omega) (FE.trans (FE.closeT (r := r) (j := 5) (i := i) hne3 (by rw [hget_old hne2, hget_old hne1, hget_set hr]) (by simpa using hmid) rfl (by simp [smk_len])) (FE.trans (by rw [hset_old hne2, hset_old hne1, hset_set]; exact FE.closeT (r := r) (j := 4) (i := i) hne2 (by rw [hget_old hne1, hget_set hr]) (by simpa using hmid) rfl (by simp [smk_len])) (by rw [hset_old hne1, hset_set]; exact FE.closeT (r := r) (j := 2) (i := i) hne1 (hget_set hr) (by simpa using hmid) rfl (by simp [smk_len])))) (by simp [E2]; omega) ?_
    rw [← smid_set wR mkR ht, List.map_set, hset_set]
    rfl
  · have : i = n := by omega
    subst this
    refine gwp_ok mxd ?_
    ((try with_reducible refine mkQI ?_); (repeat ((first | (with_reducible refine mkQU ?_) | simp only [brGen]); try simp (maxSteps := 2000000) only [↓ S2, S2, vIte, ↓reduceIte, Int.reduceNe, Nat.reduceEqDiff, reduceCtorEq, Nat.reduceLeDiff, Nat.reduceAdd, Nat.reduceLT])); (try simp +contextual (disch := omega) only [Z2]); (repeat' (first | (with_reducible intro h) | (with_reducible refine And.intro (by omega) ?_) | (with_reducible refine exP (by omega) ?_) | (with_reducible apply And.intro))))
    · rw [List.take_of_length_le (by omega)]
    · rw [List.take_of_length_le (by omega), List.drop_of_length_le (by omega), List.append_nil]
theorem w16 (rs rr n m : Nat) (k : Int) (x : Gram) (H : GH) (hne : rs ≠ rr) (h1 : hget H rs = some (2, x.syms.map SyO)) (h2 : hget H rr = some (6, x.rules.map RuO)) (hn : x.syms.length = n) (hm : x.rules.length = m) (hk : 0 ≤ k) (hb : k + smw wSym x.syms + smw wR x.rules < 9223372036854775807) :
    GCalls Tryz.prog 16 [.agg [.own rs 2 0 n, .own rr 6 0 m], I k] H (fun g H' => g = I (k + smw wSym x.syms + smw wR x.rules) ∧ H' = hset (hset H rs ((smk wSym mkSym x.syms k).map SyO)) rr ((smk wR mkR x.rules (k + smw wSym x.syms)).map RuO)) := by
  refine gstart mxd i16 rfl (by simp) ?_; simp (maxSteps := 2000000) only [↓ S2, S2, vIte, ↓reduceIte, Int.reduceNe, Nat.reduceEqDiff, reduceCtorEq, Nat.reduceLeDiff, Nat.reduceAdd, Nat.reduceLT]
  refine callS.of (w41 rs n k x.syms _ h1 hn hk (by omega)) ?_
  rintro g H' ⟨rfl, rfl⟩ -
  ((try with_reducible refine mkQI ?_); (repeat ((first | (with_reducible refine mkQU ?_) | simp only [brGen]); try simp (maxSteps := 2000000) only [↓ S2, S2, vIte, ↓reduceIte, Int.reduceNe, Nat.reduceEqDiff, reduceCtorEq, Nat.reduceLeDiff, Nat.reduceAdd, Nat.reduceLT])); (try simp +contextual (disch := omega) only [Z2]); (repeat' (first | (with_reducible intro h) | (with_reducible refine And.intro (by omega) ?_) | (with_reducible refine exP (by omega) ?_) | (with_reducible apply And.intro))))
  refine callS.of (w42 rr m _ x.rules _ (by rw [hget_set_ne hne]; exact h2) hm (by omega) (by omega)) ?_
  rintro g H' ⟨rfl, rfl⟩ -
  ((try with_reducible refine mkQI ?_); (repeat ((first | (with_reducible refine mkQU ?_) | simp only [brGen]); try simp (maxSteps := 2000000) only [↓ S2, S2, vIte, ↓reduceIte, Int.reduceNe, Nat.reduceEqDiff, reduceCtorEq, Nat.reduceLeDiff, Nat.reduceAdd, Nat.reduceLT])); (try simp +contextual (disch := omega) only [Z2]); (repeat' (first | (with_reducible intro h) | (with_reducible refine And.intro (by omega) ?_) | (with_reducible refine exP (by omega) ?_) | (with_reducible apply And.intro))))
end Go.Proofs.YtbdmpkidcpblaaaGreat

namespace Go.Proofs.YtbdmpkidcpblaaaGreat
open Go.Gh
set_option maxRecDepth 20000
set_option linter.unusedSimpArgs false
set_option linter.unusedVariables false
theorem o199 (x : Con) (hx : smCo x) (H : GH) : GCalls Tryz.prog 199 [Co x] H (fun g H' => ∃ gs Rs, (∃ r1 r2, gs = [T x.sym, T x.name, I x.goal.kind, I x.goal.n, I x.goal.pos, I x.goal.type, T x.goal.sym, T x.goal.name, .own r1 7 0 x.goal.args.length, I x.value.kind, I x.value.n, I x.value.pos, I x.value.type, T x.value.sym, T x.value.name, .own r2 7 0 x.value.args.length] ∧ Rs = [(r2, 7, x.value.args.map ExO), (r1, 7, x.goal.args.map ExO)]) ∧ g = .agg gs ∧ H' = Rs ++ H) := by
  have h0 : GCalls Tryz.prog 199 [Co x] H (fun g H' => ∃ r1 r2 r0 e, ¬ r1 = r0 ∧ ¬ r2 = r0 ∧ ¬ r2 = r1 ∧ g = .agg [T x.sym, T x.name, I x.goal.kind, I x.goal.n, I x.goal.pos, I x.goal.type, T x.goal.sym, T x.goal.name, .own r1 7 0 x.goal.args.length, I x.value.kind, I x.value.n, I x.value.pos, I x.value.type, T x.value.sym, T x.value.name, .own r2 7 0 x.value.args.length] ∧ H' = (r2, 7, x.value.args.map ExO) :: (r1, 7, x.goal.args.map ExO) :: (r0, 16, e) :: H) := by
    refine gstart mxd i199 rfl (by simp) ?_; simp (maxSteps := 2000000) only [↓ S2, S2, vIte, ↓reduceIte, Int.reduceNe, Nat.reduceEqDiff, reduceCtorEq, Nat.reduceLeDiff, Nat.reduceAdd, Nat.reduceLT]
    ((try with_reducible refine mkQI ?_); (repeat ((first | (with_reducible refine mkQU ?_) | simp only [brGen]); try simp (maxSteps := 4000000) +contextual only [↓ S2, S2, vIte, ↓reduceIte, Int.reduceNe, Nat.reduceEqDiff, reduceCtorEq, Nat.reduceLeDiff, Nat.reduceAdd, Nat.reduceLT, hget_c, hset_c, hdel_c, neN, neA_cons, neA_nil, XE])); (try simp +contextual (disch := omega) only [Z2, XE]); (repeat' (first | (with_reducible intro h) | (with_reducible refine And.intro (by omega) ?_) | (with_reducible refine exP (by omega) ?_) | (with_reducible apply And.intro))))
    rename_i r0
    refine callS.of (o247 x.goal hx.1 _) ?_
    rintro g H' ⟨r1, rfl, rfl⟩ hn
    replace hn := neH_of hn
    (replace hn := hn; simp only [neH_cons, neH_nil, neA_cons, neA_nil, and_true, true_and] at hn)
    ((try with_reducible refine mkQI ?_); (repeat ((first | (with_reducible refine mkQU ?_) | simp only [brGen]); try simp (maxSteps := 4000000) +contextual only [↓ S2, S2, vIte, ↓reduceIte, Int.reduceNe, Nat.reduceEqDiff, reduceCtorEq, Nat.reduceLeDiff, Nat.reduceAdd, Nat.reduceLT, hget_c, hset_c, hdel_c, neN, neA_cons, neA_nil, hn, XE])); (try simp +contextual (disch := omega) only [Z2, hn, XE]); (repeat' (first | (with_reducible intro h) | (with_reducible refine And.intro (by omega) ?_) | (with_reducible refine exP (by omega) ?_) | (with_reducible apply And.intro))))
    refine callS.of (o247 x.value hx.2 _) ?_
    rintro g H' ⟨r2, rfl, rfl⟩ hn2
    replace hn2 := neH_of hn2
    (replace hn2 := hn2; simp only [neH_cons, neH_nil, neA_cons, neA_nil, and_true, true_and] at hn2)
    ((try with_reducible refine mkQI ?_); (repeat ((first | (with_reducible refine mkQU ?_) | simp only [brGen]); try simp (maxSteps := 4000000) +contextual only [↓ S2, S2, vIte, ↓reduceIte, Int.reduceNe, Nat.reduceEqDiff, reduceCtorEq, Nat.reduceLeDiff, Nat.reduceAdd, Nat.reduceLT, hget_c, hset_c, hdel_c, neN, neA_cons, neA_nil, hn2, XE])); (try simp +contextual (disch := omega) only [Z2, hn2, XE]); (repeat' (first | (with_reducible intro h) | (with_reducible refine And.intro (by omega) ?_) | (with_reducible refine exP (by omega) ?_) | (with_reducible apply And.intro))))
    exact ⟨r1, r2, r0, _, by simp [hn2], by simp [hn2], by simp [hn2], rfl, rfl⟩
  refine h0.fr ?_
  rintro g H' ⟨r1, r2, r0, e, n1, n2, n3, rfl, rfl⟩
  exact ⟨_, _, FR.perm (H := [_, _, _]) (L := [(r2, 7, x.value.args.map ExO), (r1, 7, x.goal.args.map ExO)]) (by simp [subH, hget, names, *]), _, _, ⟨r1, r2, rfl, rfl⟩, rfl, rfl⟩
theorem o134 (xs : List Con) (hl : xs.length ≤ 1048576) (hx : ∀ x ∈ xs, smCo x) (H : GH) : GCalls Tryz.prog 134 [CoS xs] H (fun g H' => ∃ r, g = .own r 16 0 xs.length ∧ H' = (r, 16, xs.map CoO) :: H) :=
  toSoN mxd i134 (fun _ => rfl) (fun _ => rfl)
    (fun x gs Rs => ∃ r1 r2, gs = [T x.sym, T x.name, I x.goal.kind, I x.goal.n, I x.goal.pos, I x.goal.type, T x.goal.sym, T x.goal.name, .own r1 7 0 x.goal.args.length, I x.value.kind, I x.value.n, I x.value.pos, I x.value.type, T x.value.sym, T x.value.name, .own r2 7 0 x.value.args.length] ∧ Rs = [(r2, 7, x.value.args.map ExO), (r1, 7, x.goal.args.map ExO)])
    (fun x => [T x.sym, T x.name, I x.goal.kind, I x.goal.n, I x.goal.pos, I x.goal.type, T x.goal.sym, T x.goal.name, .osl 7 (x.goal.args.map ExO), I x.value.kind, I x.value.n, I x.value.pos, I x.value.type, T x.value.sym, T x.value.name, .osl 7 (x.value.args.map ExO)])
    (by rintro x gs Rs ⟨r1, r2, rfl, rfl⟩; rfl)
    (by
      rintro x gs Rs ⟨r1, r2, rfl, rfl⟩ env r L i H hn hi
      replace hn := neH_of hn
      simp only [List.cons_append, List.nil_append] at hn ⊢
      (replace hn := hn; simp only [neH_cons, neH_nil, neA_cons, neA_nil, and_true, true_and] at hn)
      have h1 := FE.closeT (env := env) (T := (r1, 7, x.goal.args.map ExO) :: (r, 16, L.set i (.agg [T x.sym, T x.name, I x.goal.kind, I x.goal.n, I x.goal.pos, I x.goal.type, T x.goal.sym, T x.goal.name, .own r1 7 0 x.goal.args.length, I x.value.kind, I x.value.n, I x.value.pos, I x.value.type, T x.value.sym, T x.value.name, .own r2 7 0 x.value.args.length])) :: H) (r := r) (r2 := r2) (j := 15) (ks := x.value.args.map ExO) (i := i) (by simp [hn]) (by simp only [hget_c, hn, if_true, if_false]; rfl) hi rfl (by simp)
      simp only [hset_c, hn, if_true, if_false] at h1
      refine FE.trans h1 ?_
      have h2 := FE.close2 (env := env) (H := H) (r := r) (r1 := r1) (j := 8) (i := i) (L := L) (sz := 16) (sz1 := 7) (ks := x.goal.args.map ExO) (gs := [T x.sym, T x.name, I x.goal.kind, I x.goal.n, I x.goal.pos, I x.goal.type, T x.goal.sym, T x.goal.name, .own r1 7 0 x.goal.args.length, I x.value.kind, I x.value.n, I x.value.pos, I x.value.type, T x.value.sym, T x.value.name, .osl 7 (x.value.args.map ExO)]) (by simp [hn]) hi rfl (by simp)
      exact h2)
    xs hl (by decide) (fun x hm H => o199 x (hx x hm) H) H
theorem o68 (x : Rul) (hx : smRu x) (H : GH) : GCalls Tryz.prog 68 [Ru x] H (fun g H' => ∃ gs Rs, (∃ r1 r2 r3, gs = [T x.name, T x.left, .own r1 1 0 x.right.length, B x.lit, .own r2 9 0 x.eqs.length, .own r3 16 0 x.cons.length] ∧ Rs = [(r3, 16, x.cons.map CoO), (r2, 9, x.eqs.map QnO), (r1, 1, x.right.map T)]) ∧ g = .agg gs ∧ H' = Rs ++ H) := by
  have h0 : GCalls Tryz.prog 68 [Ru x] H (fun g H' => ∃ r1 r2 r3 r0 e, ¬ r1 = r0 ∧ ¬ r2 = r0 ∧ ¬ r2 = r1 ∧ ¬ r3 = r0 ∧ ¬ r3 = r1 ∧ ¬ r3 = r2 ∧ g = .agg [T x.name, T x.left, .own r1 1 0 x.right.length, B x.lit, .own r2 9 0 x.eqs.length, .own r3 16 0 x.cons.length] ∧ H' = (r3, 16, x.cons.map CoO) :: (r2, 9, x.eqs.map QnO) :: (r1, 1, x.right.map T) :: (r0, 6, e) :: H) := by
    refine gstart mxd i68 rfl (by simp) ?_; simp (maxSteps := 2000000) only [↓ S2, S2, vIte, ↓reduceIte, Int.reduceNe, Nat.reduceEqDiff, reduceCtorEq, Nat.reduceLeDiff, Nat.reduceAdd, Nat.reduceLT]
    ((try with_reducible refine mkQI ?_); (repeat ((first | (with_reducible refine mkQU ?_) | simp only [brGen]); try simp (maxSteps := 4000000) +contextual only [↓ S2, S2, vIte, ↓reduceIte, Int.reduceNe, Nat.reduceEqDiff, reduceCtorEq, Nat.reduceLeDiff, Nat.reduceAdd, Nat.reduceLT, hget_c, hset_c, hdel_c, neN, neA_cons, neA_nil, ])); (try simp +contextual (disch := omega) only [Z2, ]); (repeat' (first | (with_reducible intro h) | (with_reducible refine And.intro (by omega) ?_) | (with_reducible refine exP (by omega) ?_) | (with_reducible apply And.intro))))
    rename_i r0
    refine callS.of (o132 x.right hx.1 _) ?_
    rintro g H' ⟨r1, rfl, rfl⟩ hn
    replace hn := neH_of hn
    (replace hn := hn; simp only [neH_cons, neH_nil, neA_cons, neA_nil, and_true, true_and] at hn)
    ((try with_reducible refine mkQI ?_); (repeat ((first | (with_reducible refine mkQU ?_) | simp only [brGen]); try simp (maxSteps := 4000000) +contextual only [↓ S2, S2, vIte, ↓reduceIte, Int.reduceNe, Nat.reduceEqDiff, reduceCtorEq, Nat.reduceLeDiff, Nat.reduceAdd, Nat.reduceLT, hget_c, hset_c, hdel_c, neN, neA_cons, neA_nil, hn])); (try simp +contextual (disch := omega) only [Z2, hn]); (repeat' (first | (with_reducible intro h) | (with_reducible refine And.intro (by omega) ?_) | (with_reducible refine exP (by omega) ?_) | (with_reducible apply And.intro))))
    refine callS.of (o133 x.eqs hx.2.1 hx.2.2.2.1 _) ?_
    rintro g H' ⟨r2, rfl, rfl⟩ hn2
    replace hn2 := neH_of hn2
    (replace hn2 := hn2; simp only [neH_cons, neH_nil, neA_cons, neA_nil, and_true, true_and] at hn2)
    ((try with_reducible refine mkQI ?_); (repeat ((first | (with_reducible refine mkQU ?_) | simp only [brGen]); try simp (maxSteps := 4000000) +contextual only [↓ S2, S2, vIte, ↓reduceIte, Int.reduceNe, Nat.reduceEqDiff, reduceCtorEq, Nat.reduceLeDiff, Nat.reduceAdd, Nat.reduceLT, hget_c, hset_c, hdel_c, neN, neA_cons, neA_nil, hn2])); (try simp +contextual (disch := omega) only [Z2, hn2]); (repeat' (first | (with_reducible intro h) | (with_reducible refine And.intro (by omega) ?_) | (with_reducible refine exP (by omega) ?_) | (with_reducible apply And.intro))))
    refine callS.of (o134 x.cons hx.2.2.1 hx.2.2.2.2 _) ?_
    rintro g H' ⟨r3, rfl, rfl⟩ hn3
    replace hn3 := neH_of hn3
    (replace hn3 := hn3; simp only [neH_cons, neH_nil, neA_cons, neA_nil, and_true, true_and] at hn3)
    ((try with_reducible refine mkQI ?_); (repeat ((first | (with_reducible refine mkQU ?_) | simp only [brGen]); try simp (maxSteps := 4000000) +contextual only [↓ S2, S2, vIte, ↓reduceIte, Int.reduceNe, Nat.reduceEqDiff, reduceCtorEq, Nat.reduceLeDiff, Nat.reduceAdd, Nat.reduceLT, hget_c, hset_c, hdel_c, neN, neA_cons, neA_nil, hn3])); (try simp +contextual (disch := omega) only [Z2, hn3]); (repeat' (first | (with_reducible intro h) | (with_reducible refine And.intro (by omega) ?_) | (with_reducible refine exP (by omega) ?_) | (with_reducible apply And.intro))))
    exact ⟨r1, r2, r3, r0, _, by simp [hn3], by simp [hn3], by simp [hn3], by simp [hn3], by simp [hn3], by simp [hn3], rfl, rfl⟩
  refine h0.fr ?_
  rintro g H' ⟨r1, r2, r3, r0, e, n1, n2, n3, n4, n5, n6, rfl, rfl⟩
  exact ⟨_, _, FR.perm (H := [_, _, _, _]) (L := [(r3, 16, x.cons.map CoO), (r2, 9, x.eqs.map QnO), (r1, 1, x.right.map T)]) (by simp [subH, hget, names, *]), _, _, ⟨r1, r2, r3, rfl, rfl⟩, rfl, rfl⟩
theorem o33 (xs : List Rul) (hl : xs.length ≤ 1048576) (hx : ∀ x ∈ xs, smRu x) (H : GH) : GCalls Tryz.prog 33 [RuS xs] H (fun g H' => ∃ r, g = .own r 6 0 xs.length ∧ H' = (r, 6, xs.map RuO) :: H) :=
  toSoN mxd i33 (fun _ => rfl) (fun _ => rfl)
    (fun x gs Rs => ∃ r1 r2 r3, gs = [T x.name, T x.left, .own r1 1 0 x.right.length, B x.lit, .own r2 9 0 x.eqs.length, .own r3 16 0 x.cons.length] ∧ Rs = [(r3, 16, x.cons.map CoO), (r2, 9, x.eqs.map QnO), (r1, 1, x.right.map T)])
    (fun x => [T x.name, T x.left, .osl 1 (x.right.map T), B x.lit, .osl 9 (x.eqs.map QnO), .osl 16 (x.cons.map CoO)])
    (by rintro x gs Rs ⟨r1, r2, r3, rfl, rfl⟩; rfl)
    (by
      rintro x gs Rs ⟨r1, r2, r3, rfl, rfl⟩ env r L i H hn hi
      replace hn := neH_of hn
      simp only [List.cons_append, List.nil_append] at hn ⊢
      (replace hn := hn; simp only [neH_cons, neH_nil, neA_cons, neA_nil, and_true, true_and] at hn)
      have h1 := FE.closeT (env := env) (T := (r2, 9, x.eqs.map QnO) :: (r1, 1, x.right.map T) :: (r, 6, L.set i (.agg [T x.name, T x.left, .own r1 1 0 x.right.length, B x.lit, .own r2 9 0 x.eqs.length, .own r3 16 0 x.cons.length])) :: H) (r := r) (r2 := r3) (j := 5) (ks := x.cons.map CoO) (i := i) (by simp [hn]) (by simp only [hget_c, hn, if_true, if_false]; rfl) hi rfl (by simp)
      simp only [hset_c, hn, if_true, if_false] at h1
      refine FE.trans h1 ?_
      have h2 := FE.closeT (env := env) (T := (r1, 1, x.right.map T) :: (r, 6, L.set i (.agg [T x.name, T x.left, .own r1 1 0 x.right.length, B x.lit, .own r2 9 0 x.eqs.length, .osl 16 (x.cons.map CoO)])) :: H) (r := r) (r2 := r2) (j := 4) (ks := x.eqs.map QnO) (i := i) (by simp [hn]) (by simp only [hget_c, hn, if_true, if_false]; rfl) hi rfl (by simp)
      simp only [hset_c, hn, if_true, if_false] at h2
      refine FE.trans h2 ?_
      have h3 := FE.close2 (env := env) (H := H) (r := r) (r1 := r1) (j := 2) (i := i) (L := L) (sz := 6) (sz1 := 1) (ks := x.right.map T) (gs := [T x.name, T x.left, .own r1 1 0 x.right.length, B x.lit, .osl 9 (x.eqs.map QnO), .osl 16 (x.cons.map CoO)]) (by simp [hn]) hi rfl (by simp)
      exact h3)
    xs hl (by decide) (fun x hm H => o68 x (hx x hm) H) H
theorem o10 (x : Gram) (hx : smGr x) (H : GH) : GCalls Tryz.prog 10 [Gr x] H (fun g H' => ∃ rs rr, ¬ rr = rs ∧ g = .agg [.own rs 2 0 x.syms.length, .own rr 6 0 x.rules.length] ∧ H' = (rr, 6, x.rules.map RuO) :: (rs, 2, x.syms.map SyO) :: H) := by
  have h0 : GCalls Tryz.prog 10 [Gr x] H (fun g H' => ∃ rs rr r0 e, ¬ rs = r0 ∧ ¬ rr = r0 ∧ ¬ rr = rs ∧ g = .agg [.own rs 2 0 x.syms.length, .own rr 6 0 x.rules.length] ∧ H' = (rr, 6, x.rules.map RuO) :: (rs, 2, x.syms.map SyO) :: (r0, 2, e) :: H) := by
    refine gstart mxd i10 rfl (by simp) ?_; simp (maxSteps := 2000000) only [↓ S2, S2, vIte, ↓reduceIte, Int.reduceNe, Nat.reduceEqDiff, reduceCtorEq, Nat.reduceLeDiff, Nat.reduceAdd, Nat.reduceLT]
    ((try with_reducible refine mkQI ?_); (repeat ((first | (with_reducible refine mkQU ?_) | simp only [brGen]); try simp (maxSteps := 4000000) +contextual only [↓ S2, S2, vIte, ↓reduceIte, Int.reduceNe, Nat.reduceEqDiff, reduceCtorEq, Nat.reduceLeDiff, Nat.reduceAdd, Nat.reduceLT, hget_c, hset_c, hdel_c, neN, neA_cons, neA_nil, ])); (try simp +contextual (disch := omega) only [Z2, ]); (repeat' (first | (with_reducible intro h) | (with_reducible refine And.intro (by omega) ?_) | (with_reducible refine exP (by omega) ?_) | (with_reducible apply And.intro))))
    rename_i r0
    refine callS.of (o32 x.syms hx.1 hx.2.2.1 _) ?_
    rintro g H' ⟨r1, rfl, rfl⟩ hn
    replace hn := neH_of hn
    (replace hn := hn; simp only [neH_cons, neH_nil, neA_cons, neA_nil, and_true, true_and] at hn)
    ((try with_reducible refine mkQI ?_); (repeat ((first | (with_reducible refine mkQU ?_) | simp only [brGen]); try simp (maxSteps := 4000000) +contextual only [↓ S2, S2, vIte, ↓reduceIte, Int.reduceNe, Nat.reduceEqDiff, reduceCtorEq, Nat.reduceLeDiff, Nat.reduceAdd, Nat.reduceLT, hget_c, hset_c, hdel_c, neN, neA_cons, neA_nil, hn])); (try simp +contextual (disch := omega) only [Z2, hn]); (repeat' (first | (with_reducible intro h) | (with_reducible refine And.intro (by omega) ?_) | (with_reducible refine exP (by omega) ?_) | (with_reducible apply And.intro))))
    refine callS.of (o33 x.rules hx.2.1 hx.2.2.2 _) ?_
    rintro g H' ⟨r2, rfl, rfl⟩ hn2
    replace hn2 := neH_of hn2
    (replace hn2 := hn2; simp only [neH_cons, neH_nil, neA_cons, neA_nil, and_true, true_and] at hn2)
    ((try with_reducible refine mkQI ?_); (repeat ((first | (with_reducible refine mkQU ?_) | simp only [brGen]); try simp (maxSteps := 4000000) +contextual only [↓ S2, S2, vIte, ↓reduceIte, Int.reduceNe, Nat.reduceEqDiff, reduceCtorEq, Nat.reduceLeDiff, Nat.reduceAdd, Nat.reduceLT, hget_c, hset_c, hdel_c, neN, neA_cons, neA_nil, hn2])); (try simp +contextual (disch := omega) only [Z2, hn2]); (repeat' (first | (with_reducible intro h) | (with_reducible refine And.intro (by omega) ?_) | (with_reducible refine exP (by omega) ?_) | (with_reducible apply And.intro))))
    exact ⟨r1, r2, r0, _, by simp [hn2], by simp [hn2], by simp [hn2], rfl, rfl⟩
  refine h0.fr ?_
  rintro g H' ⟨r1, r2, r0, e, n1, n2, n3, rfl, rfl⟩
  exact ⟨_, _, FR.perm (H := [_, _, _]) (L := [(r2, 6, x.rules.map RuO), (r1, 2, x.syms.map SyO)]) (by simp [subH, hget, names, *]), r1, r2, n3, rfl, rfl⟩
end Go.Proofs.YtbdmpkidcpblaaaGreat

