/- The law FnExactTreeCycle returns true whatever the input, and the input reads behind the call as before. No condition. -/
import Derived.Test.YtbdmpkidcpblaaaGreatCyc2
namespace Go.Proofs.YtbdmpkidcpblaaaGreat
open Go.Gh
set_option maxRecDepth 20000
set_option linter.unusedSimpArgs false
set_option linter.unusedVariables false
theorem w80 (k : Int) (hk : k < 9223372036854775807) : Pure Tryz.prog 80 [I k] (· = T (mtext k)) := by
  refine gstart mxd i80 rfl (by simp) ?_; simp (maxSteps := 2000000) only [↓ S2, S2, vIte, ↓reduceIte, Int.reduceNe, Nat.reduceEqDiff, reduceCtorEq, Nat.reduceLeDiff, Nat.reduceAdd, Nat.reduceLT]
  ((try with_reducible refine mkQI ?_); (repeat ((first | (with_reducible refine mkQU ?_) | simp only [brGen]); try simp (maxSteps := 2000000) only [↓ S2, S2, vIte, ↓reduceIte, Int.reduceNe, Nat.reduceEqDiff, reduceCtorEq, Nat.reduceLeDiff, Nat.reduceAdd, Nat.reduceLT])); (try simp +contextual (disch := omega) only [Z2]); (repeat' (first | (with_reducible intro h) | (with_reducible refine And.intro (by omega) ?_) | (with_reducible refine exP (by omega) ?_) | (with_reducible apply And.intro))))
  · simp [mtext, h]
  have hR : ∃ R, dig k.toNat k [] = R := ⟨_, rfl⟩
  obtain ⟨R, hR⟩ := hR
  refine wloop mxd (ι := { x : Nat × Int × List UInt8 // dig x.1 x.2.1 x.2.2 = R ∧ x.2.1 ≤ x.1 ∧ 0 ≤ x.2.1 ∧ x.2.1 + x.2.2.length ≤ k }) (fun x => [(0, I x.1.2.1), (3, T ⟨x.1.2.2.toArray⟩)]) (fun _ => []) (fun x => x.1.1) ⟨(k.toNat, k, []), hR, by show k ≤ (k.toNat : Int); omega, by show 0 ≤ k; omega, by simp⟩ (by simp [E2]) rfl ?_
  rintro ⟨⟨f, j, acc⟩, h1, h2, h3, h4⟩
  dsimp only at h1 h2 h3 h4
  have e : j.tdiv 10 = j / 10 := Int.tdiv_eq_ediv_of_nonneg h3
  ((try with_reducible refine mkQI ?_); (repeat ((first | (with_reducible refine mkQU ?_) | simp only [brGen]); try simp (maxSteps := 2000000) only [↓ S2, S2, vIte, ↓reduceIte, Int.reduceNe, Nat.reduceEqDiff, reduceCtorEq, Nat.reduceLeDiff, Nat.reduceAdd, Nat.reduceLT])); (try simp +contextual (disch := omega) only [Z2]); (repeat' (first | (with_reducible intro h) | (with_reducible refine And.intro (by omega) ?_) | (with_reducible refine exP (by omega) ?_) | (with_reducible apply And.intro))))
  · show ([_] : List UInt8).length + acc.toArray.toList.length ≤ _
    simp; omega
  · rename_i hj r
    obtain ⟨f', rfl⟩ : ∃ f', f = f' + 1 := ⟨f - 1, by omega⟩
    rw [dig, if_pos hj] at h1
    refine nxF ⟨(f', j.tdiv 10, dgt j :: acc), h1, ?_, ?_, ?_⟩ (by simp) (FE.drop hget_new) ?_ (by rw [hdel_new])
    · show j.tdiv 10 ≤ _; omega
    · show 0 ≤ j.tdiv 10; omega
    · show j.tdiv 10 + ((dgt j :: acc).length : Int) ≤ k; simp; omega
    · simp [E2, dgt, mkS]
      rfl
  · show ([_] : List UInt8).length + acc.toArray.toList.length ≤ _
    simp; omega
  · rw [dig_end _ _ h] at h1
    rw [mtext, if_neg (by omega), hR, h1]
    simp [mkS, chars]
theorem w18 (r n : Nat) (k : Int) (es : List Int) (H : GH) (hr : hget H r = some (1, es.map I)) (hn : es.length = n) (hk : 0 ≤ k) (hb : k + n < 9223372036854775807) :
    GCalls Tryz.prog 18 [.own r 1 0 n, I k] H (fun g H' => g = I (k + n) ∧ H' = hset H r ((upFrom k n).map I)) := by
  refine gstart mxd i18 rfl (by simp) ?_; simp (maxSteps := 2000000) only [↓ S2, S2, vIte, ↓reduceIte, Int.reduceNe, Nat.reduceEqDiff, reduceCtorEq, Nat.reduceLeDiff, Nat.reduceAdd, Nat.reduceLT]
  refine wloop mxd (ι := { i : Nat // i ≤ n }) (fun i => [(0, .own r 1 0 n), (1, I (k + i.1)), (5, I i.1)]) (fun i => hset H r ((upFrom k i.1 ++ es.drop i.1).map I)) (fun i => n - i.1) ⟨0, by omega⟩ (by simp [E2]) (by simp [upFrom]; rw [hset_self hr]) ?_
  rintro ⟨i, hi⟩
  ((try with_reducible refine mkQI ?_); (repeat ((first | (with_reducible refine mkQU ?_) | simp only [brGen]); try simp (maxSteps := 2000000) only [↓ S2, S2, vIte, ↓reduceIte, Int.reduceNe, Nat.reduceEqDiff, reduceCtorEq, Nat.reduceLeDiff, Nat.reduceAdd, Nat.reduceLT, hget_set hr, hset_set])); (try simp +contextual (disch := omega) only [Z2, hget_set hr, hset_set]); (repeat' (first | (with_reducible intro h) | (with_reducible refine And.intro (by omega) ?_) | (with_reducible refine exP (by omega) ?_) | (with_reducible apply And.intro))))
  · refine exP (by simp [upFrom_len]; omega) (nx ⟨i + 1, by omega⟩ (by simp; omega) (by simp [E2]; omega) ?_)
    have e : (upFrom k i ++ es.drop i).set i (k + i) = upFrom k (i + 1) ++ es.drop (i + 1) := by
      rw [upFrom_snoc, List.set_append_right _ _ (by simp [upFrom_len])]
      simp [upFrom_len]
      rw [List.drop_eq_getElem_cons (by omega)]
      rfl
    rw [e]
  · have : i = n := by omega
    rw [this]
  · have : i = n := by omega
    subst this
    rw [List.drop_of_length_le (by omega), List.append_nil]
theorem w19 (n : Nat) (k : Int) (hk : 0 ≤ k) (hb : k + n < 9223372036854775807) :
    Pure Tryz.prog 19 [IS (upFrom k n), I k] (· = I (k + n)) := by
  refine gstart mxd i19 rfl (by simp) ?_; simp (maxSteps := 2000000) only [↓ S2, S2, vIte, ↓reduceIte, Int.reduceNe, Nat.reduceEqDiff, reduceCtorEq, Nat.reduceLeDiff, Nat.reduceAdd, Nat.reduceLT]
  refine wloop mxd (ι := { i : Nat // i ≤ n }) (fun i => [(0, IS (upFrom k n)), (1, I (k + i.1)), (5, I i.1)]) (fun i => []) (fun i => n - i.1) ⟨0, by omega⟩ (by simp [E2]) rfl ?_
  rintro ⟨i, hi⟩
  ((try with_reducible refine mkQI ?_); (repeat ((first | (with_reducible refine mkQU ?_) | simp only [brGen]); try simp (maxSteps := 2000000) only [↓ S2, S2, vIte, ↓reduceIte, Int.reduceNe, Nat.reduceEqDiff, reduceCtorEq, Nat.reduceLeDiff, Nat.reduceAdd, Nat.reduceLT, upFrom_len, upFrom_get])); (try simp +contextual (disch := omega) only [Z2, upFrom_len, upFrom_get]); (repeat' (first | (with_reducible intro h) | (with_reducible refine And.intro (by omega) ?_) | (with_reducible refine exP (by omega) ?_) | (with_reducible apply And.intro))))
  · exact nx ⟨i + 1, by omega⟩ (by simp; omega) (by simp [E2]; omega) rfl
  · have : i = n := by omega
    rw [this]
theorem o69 (x : Nod) (hx : x.kids.length ≤ 1048576) (H : GH) : GCalls Tryz.prog 69 [Nd x] H (fun g H' => ∃ r, g = .agg [I x.id, I x.parent, I x.place, I x.lit, T x.rule, .own r 1 0 x.kids.length] ∧ H' = (r, 1, x.kids.map I) :: H) := by
  have h0 : GCalls Tryz.prog 69 [Nd x] H (fun g H' => ∃ r r0 e, r ≠ r0 ∧ g = .agg [I x.id, I x.parent, I x.place, I x.lit, T x.rule, .own r 1 0 x.kids.length] ∧ H' = (r, 1, x.kids.map I) :: (r0, 6, e) :: H) := by
    refine gstart mxd i69 rfl (by simp) ?_; simp (maxSteps := 2000000) only [↓ S2, S2, vIte, ↓reduceIte, Int.reduceNe, Nat.reduceEqDiff, reduceCtorEq, Nat.reduceLeDiff, Nat.reduceAdd, Nat.reduceLT]
    intro r0 hr0
    refine callS.of (o25 _ hx _) ?_
    rintro g H' ⟨r, rfl, rfl⟩ hn
    have hne : r ≠ r0 := ne_of_new hn hget_new
    ((try with_reducible refine mkQI ?_); (repeat ((first | (with_reducible refine mkQU ?_) | simp only [brGen]); try simp (maxSteps := 2000000) only [↓ S2, S2, vIte, ↓reduceIte, Int.reduceNe, Nat.reduceEqDiff, reduceCtorEq, Nat.reduceLeDiff, Nat.reduceAdd, Nat.reduceLT, hget_old hne, hset_old hne])); (try simp +contextual (disch := omega) only [Z2, hget_old hne, hset_old hne]); (repeat' (first | (with_reducible intro h) | (with_reducible refine And.intro (by omega) ?_) | (with_reducible refine exP (by omega) ?_) | (with_reducible apply And.intro))))
    exact ⟨r, r0, _, hne, rfl, rfl⟩
  refine h0.fr ?_
  rintro g H' ⟨r, r0, e, hne, rfl, rfl⟩
  refine ⟨_, _, FR.drop (r := r0) (by rw [hget_old hne, hget_new]), r, rfl, by rw [hdel_old hne, hdel_new]⟩
theorem o34 (xs : List Nod) (hl : xs.length ≤ 1048576) (hx : ∀ x ∈ xs, x.kids.length ≤ 1048576) (H : GH) : GCalls Tryz.prog 34 [NdS xs] H (fun g H' => ∃ r, g = .own r 6 0 xs.length ∧ H' = (r, 6, xs.map NdO) :: H) := by
  refine gstart mxd i34 rfl (by simp) ?_; simp (maxSteps := 2000000) only [↓ S2, S2, vIte, ↓reduceIte, Int.reduceNe, Nat.reduceEqDiff, reduceCtorEq, Nat.reduceLeDiff, Nat.reduceAdd, Nat.reduceLT]
  refine ⟨by omega, by omega, by omega, by omega, fun r hr => ?_⟩
  refine wloop mxd (ι := { i : Nat // i ≤ xs.length }) (fun i => [(0, NdS xs), (3, .own r 6 0 xs.length), (4, I i.1)]) (fun i => (r, 6, (xs.take i.1).map NdO ++ List.replicate (xs.length - i.1) (.agg [I 0, I 0, I 0, I 0, T (ByteArray.mk #[]), .val (.slice none 0 0)])) :: H) (fun i => xs.length - i.1) ⟨0, by simp⟩ (by simp [E2]) (by simp) ?_
  rintro ⟨i, hi⟩
  ((try with_reducible refine mkQI ?_); (repeat ((first | (with_reducible refine mkQU ?_) | simp only [brGen]); try simp (maxSteps := 2000000) only [↓ S2, S2, vIte, ↓reduceIte, Int.reduceNe, Nat.reduceEqDiff, reduceCtorEq, Nat.reduceLeDiff, Nat.reduceAdd, Nat.reduceLT])); (try simp +contextual (disch := omega) only [Z2]); (repeat' (first | (with_reducible intro h) | (with_reducible refine And.intro (by omega) ?_) | (with_reducible refine exP (by omega) ?_) | (with_reducible apply And.intro))))
  · refine callS.of (o69 xs[i] (hx _ (List.getElem_mem _)) _) ?_
    rintro g H' ⟨r1, rfl, rfl⟩ hn
    have hne : r1 ≠ r := ne_of_new hn hget_new
    ((try with_reducible refine mkQI ?_); (repeat ((first | (with_reducible refine mkQU ?_) | simp only [brGen]); try simp (maxSteps := 2000000) only [↓ S2, S2, vIte, ↓reduceIte, Int.reduceNe, Nat.reduceEqDiff, reduceCtorEq, Nat.reduceLeDiff, Nat.reduceAdd, Nat.reduceLT, hget_old hne, hset_old hne, stw])); (try simp +contextual (disch := omega) only [Z2, hget_old hne, hset_old hne, stw]); (repeat' (first | (with_reducible intro h) | (with_reducible refine And.intro (by omega) ?_) | (with_reducible refine exP (by omega) ?_) | (with_reducible apply And.intro))))
    refine exP (by simp; omega) (nxF ⟨i + 1, by omega⟩ (by simp; omega) (FE.close2 (j := 5) hne (by simp; omega) rfl (by simp)) (by simp [E2]) ?_)
    have e := fill_set xs NdO (.agg [I 0, I 0, I 0, I 0, T (ByteArray.mk #[]), .val (.slice none 0 0)]) i h
    rw [← e]
    rfl
  · have : i = xs.length := by omega
    subst this
    exact ⟨r, rfl, by simp⟩
theorem o11 (t : List Nod) (hl : t.length ≤ 1048576) (hx : ∀ x ∈ t, x.kids.length ≤ 1048576) (H : GH) : GCalls Tryz.prog 11 [Tr t] H (fun g H' => ∃ r, g = .agg [.own r 6 0 t.length] ∧ H' = (r, 6, t.map NdO) :: H) := by
  have h0 : GCalls Tryz.prog 11 [Tr t] H (fun g H' => ∃ r r0 e, r ≠ r0 ∧ g = .agg [.own r 6 0 t.length] ∧ H' = (r, 6, t.map NdO) :: (r0, 1, e) :: H) := by
    refine gstart mxd i11 rfl (by simp) ?_; simp (maxSteps := 2000000) only [↓ S2, S2, vIte, ↓reduceIte, Int.reduceNe, Nat.reduceEqDiff, reduceCtorEq, Nat.reduceLeDiff, Nat.reduceAdd, Nat.reduceLT]
    intro r0 hr0
    refine callS.of (o34 _ hl hx _) ?_
    rintro g H' ⟨r, rfl, rfl⟩ hn
    have hne : r ≠ r0 := ne_of_new hn hget_new
    ((try with_reducible refine mkQI ?_); (repeat ((first | (with_reducible refine mkQU ?_) | simp only [brGen]); try simp (maxSteps := 2000000) only [↓ S2, S2, vIte, ↓reduceIte, Int.reduceNe, Nat.reduceEqDiff, reduceCtorEq, Nat.reduceLeDiff, Nat.reduceAdd, Nat.reduceLT, hget_old hne, hset_old hne])); (try simp +contextual (disch := omega) only [Z2, hget_old hne, hset_old hne]); (repeat' (first | (with_reducible intro h) | (with_reducible refine And.intro (by omega) ?_) | (with_reducible refine exP (by omega) ?_) | (with_reducible apply And.intro))))
    exact ⟨r, r0, _, hne, rfl, rfl⟩
  refine h0.fr ?_
  rintro g H' ⟨r, r0, e, hne, rfl, rfl⟩
  refine ⟨_, _, FR.drop (r := r0) (by rw [hget_old hne, hget_new]), r, rfl, by rw [hdel_old hne, hdel_new]⟩
theorem w43 (r n : Nat) (k : Int) (t : List Nod) (H : GH) (hr : hget H r = some (6, t.map NdO)) (hn : t.length = n) (hk : 0 ≤ k) (hb : mkEnd k t < 9223372036854775807) :
    GCalls Tryz.prog 43 [.own r 6 0 n, I k] H (fun g H' => g = I (mkEnd k t) ∧ H' = hset H r ((mkNods k t).map NdO)) := by
  refine gstart mxd i43 rfl (by simp) ?_; simp (maxSteps := 2000000) only [↓ S2, S2, vIte, ↓reduceIte, Int.reduceNe, Nat.reduceEqDiff, reduceCtorEq, Nat.reduceLeDiff, Nat.reduceAdd, Nat.reduceLT]
  refine wloopF mxd (ι := { i : Nat // i ≤ n }) (fun i => [(0, .own r 6 0 n), (1, I (mkEnd k (t.take i.1))), (5, I i.1)]) (fun i => hset H r ((mkNods k (t.take i.1) ++ t.drop i.1).map NdO)) (fun i => n - i.1) ⟨0, by omega⟩ FE.refl (by simp [E2, mkEnd]) (by simp [mkNods]; rw [hset_self hr]) ?_
  rintro ⟨i, hi⟩ hnd
  dsimp only at hnd ⊢
  rcases Nat.lt_or_ge i n with h | h
  · have ht : i < t.length := by omega
    have hmid : i < (mkNods k (t.take i) ++ t.drop i).length := by simp [mkNods_len]; omega
    have e1 := mkEnd_step (k := k) ht
    have e2 := mkEnd_take (k := k) (t := t) (i + 1)
    have e3 := mkEnd_le k (t.take i)
    have e4 := mkEnd_len k t
    refine GW.opn (r := r) (i := i) (j := 5) (hget_set hr) (by rw [List.getElem?_map, List.getElem?_eq_getElem hmid, mid_get ht]; rfl) rfl fun r1 hn1 => ?_
    have hne : r1 ≠ r := ne_of_new hn1 (hget_set hr)
    refine gwp_ok mxd ?_
    rw [hset_set]
    ((try with_reducible refine mkQI ?_); (repeat ((first | (with_reducible refine mkQU ?_) | simp only [brGen]); try simp (maxSteps := 2000000) only [↓ S2, S2, vIte, ↓reduceIte, Int.reduceNe, Nat.reduceEqDiff, reduceCtorEq, Nat.reduceLeDiff, Nat.reduceAdd, Nat.reduceLT, hget_old hne, hset_old hne, hget_set hr, hset_set, List.getElem_set_self, List.set_set, List.length_set])); (try simp +contextual (disch := omega) only [Z2, hget_old hne, hset_old hne, hget_set hr, hset_set, List.getElem_set_self, List.set_set, List.length_set]); (repeat' (first | (with_reducible intro h) | (with_reducible refine And.intro (by omega) ?_) | (with_reducible refine exP (by omega) ?_) | (with_reducible apply And.intro))))
    · refine callS.eq (w80 _ (by omega)) ?_
      ((try with_reducible refine mkQI ?_); (repeat ((first | (with_reducible refine mkQU ?_) | simp only [brGen]); try simp (maxSteps := 2000000) only [↓ S2, S2, vIte, ↓reduceIte, Int.reduceNe, Nat.reduceEqDiff, reduceCtorEq, Nat.reduceLeDiff, Nat.reduceAdd, Nat.reduceLT, hget_old hne, hset_old hne, hget_set hr, hset_set, List.getElem_set_self, List.set_set, List.length_set])); (try simp +contextual (disch := omega) only [Z2, hget_old hne, hset_old hne, hget_set hr, hset_set, List.getElem_set_self, List.set_set, List.length_set]); (repeat' (first | (with_reducible intro h) | (with_reducible refine And.intro (by omega) ?_) | (with_reducible refine exP (by omega) ?_) | (with_reducible apply And.intro))))
      refine callS.of (w18 r1 _ _ t[i].kids _ hget_new rfl (by omega) (by omega)) ?_
      rintro g H' ⟨rfl, rfl⟩ hn2
      rw [hset_new] at hn2 ⊢
      ((try with_reducible refine mkQI ?_); (repeat ((first | (with_reducible refine mkQU ?_) | simp only [brGen]); try simp (maxSteps := 2000000) only [↓ S2, S2, vIte, ↓reduceIte, Int.reduceNe, Nat.reduceEqDiff, reduceCtorEq, Nat.reduceLeDiff, Nat.reduceAdd, Nat.reduceLT, hget_old hne, hset_old hne, hget_set hr, hset_set, List.getElem_set_self, List.set_set, List.length_set])); (try simp +contextual (disch := omega) only [Z2, hget_old hne, hset_old hne, hget_set hr, hset_set, List.getElem_set_self, List.set_set, List.length_set]); (repeat' (first | (with_reducible intro h) | (with_reducible refine And.intro (by omega) ?_) | (with_reducible refine exP (by omega) ?_) | (with_reducible apply And.intro))))
      refine nxF ⟨i + 1, by omega⟩ (by simp; omega) (FE.close3 hr hne (j := 5) (by simpa using hmid) rfl (by simp [upFrom_len])) (by simp [E2]; omega) ?_
      show hset H r ((List.map NdO _).set i (NdO (mkNod (mkEnd k (t.take i)) t[i]))) = _
      rw [← List.map_set, mid_set ht]
    · omega
  · have : i = n := by omega
    subst this
    refine gwp_ok mxd ?_
    ((try with_reducible refine mkQI ?_); (repeat ((first | (with_reducible refine mkQU ?_) | simp only [brGen]); try simp (maxSteps := 2000000) only [↓ S2, S2, vIte, ↓reduceIte, Int.reduceNe, Nat.reduceEqDiff, reduceCtorEq, Nat.reduceLeDiff, Nat.reduceAdd, Nat.reduceLT])); (try simp +contextual (disch := omega) only [Z2]); (repeat' (first | (with_reducible intro h) | (with_reducible refine And.intro (by omega) ?_) | (with_reducible refine exP (by omega) ?_) | (with_reducible apply And.intro))))
    · rw [List.take_of_length_le (by omega)]
    · rw [List.take_of_length_le (by omega), List.drop_of_length_le (by omega), List.append_nil]
theorem w17 (r n : Nat) (k : Int) (t : List Nod) (H : GH) (hr : hget H r = some (6, t.map NdO)) (hn : t.length = n) (hk : 0 ≤ k) (hb : mkEnd k t < 9223372036854775807) :
    GCalls Tryz.prog 17 [.agg [.own r 6 0 n], I k] H (fun g H' => g = I (mkEnd k t) ∧ H' = hset H r ((mkNods k t).map NdO)) := by
  refine gstart mxd i17 rfl (by simp) ?_; simp (maxSteps := 2000000) only [↓ S2, S2, vIte, ↓reduceIte, Int.reduceNe, Nat.reduceEqDiff, reduceCtorEq, Nat.reduceLeDiff, Nat.reduceAdd, Nat.reduceLT]
  refine callS.of (w43 r n k t H hr hn hk hb) ?_
  rintro g H' ⟨rfl, rfl⟩ -
  ((try with_reducible refine mkQI ?_); (repeat ((first | (with_reducible refine mkQU ?_) | simp only [brGen]); try simp (maxSteps := 2000000) only [↓ S2, S2, vIte, ↓reduceIte, Int.reduceNe, Nat.reduceEqDiff, reduceCtorEq, Nat.reduceLeDiff, Nat.reduceAdd, Nat.reduceLT])); (try simp +contextual (disch := omega) only [Z2]); (repeat' (first | (with_reducible intro h) | (with_reducible refine And.intro (by omega) ?_) | (with_reducible refine exP (by omega) ?_) | (with_reducible apply And.intro))))
end Go.Proofs.YtbdmpkidcpblaaaGreat

