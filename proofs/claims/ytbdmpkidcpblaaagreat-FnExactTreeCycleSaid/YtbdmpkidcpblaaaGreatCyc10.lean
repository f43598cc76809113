/- The law FnExactTreeCycle returns true whatever the input, and the input reads behind the call as before. No condition. -/
import Derived.Test.YtbdmpkidcpblaaaGreatCyc9
namespace Go.Proofs.YtbdmpkidcpblaaaGreat
open Go.Gh
set_option maxRecDepth 20000
set_option linter.unusedSimpArgs false
set_option linter.unusedVariables false
set_option maxHeartbeats 4000000 in
theorem o138 (g : Gram) (t : List Nod) (x : Int × ByteArray) (hg : smGr g) (hl : t.length ≤ 1048576) (H : GH) : GCalls Tryz.prog 138 [Gr g, Tr t, Ins x] H (fun v H' => ∃ H1, (∃ q, v = .tup [.agg [I (defO g t x), I (defE g t x).kind, I (defE g t x).n, I (defE g t x).pos, I (defE g t x).type, T (defE g t x).sym, T (defE g t x).name, .own q 7 0 (defE g t x).args.length], B (defB g t x)] ∧ H1 = [(q, 7, (defE g t x).args.map ExO)]) ∧ H' = H1 ++ H) := by
  have h0 : GCalls Tryz.prog 138 [Gr g, Tr t, Ins x] H (fun v H' => (defB g t x = true ∧ ∃ q H2, v = .tup [.agg [I (defO g t x), I (defE g t x).kind, I (defE g t x).n, I (defE g t x).pos, I (defE g t x).type, T (defE g t x).sym, T (defE g t x).name, .own q 7 0 (defE g t x).args.length], B true] ∧ H' = ((q, 7, (defE g t x).args.map ExO) :: H2) ++ H) ∨ (defB g t x = false ∧ v = .tup [.agg [I 0, I 0, I 0, I 0, I 0, T noS, T noS, .val (.slice none 0 0)], B false] ∧ ∃ H2, H' = H2 ++ H)) := by
    refine gstart mxd i138 rfl (by simp) ?_; simp (maxSteps := 2000000) only [↓ S2, S2, vIte, ↓reduceIte, Int.reduceNe, Nat.reduceEqDiff, reduceCtorEq, Nat.reduceLeDiff, Nat.reduceAdd, Nat.reduceLT]
    refine callS.eq (w203 g t x hg) ?_
    by_cases h1 : hasN g t x.1 x.2 = true
    · obtain ⟨hi1, hi2⟩ := hasN_ix h1
      obtain ⟨n, hin⟩ : ∃ n : Nat, ixOf (fun y : Nod => decide (y.id = x.1)) t = n := ⟨(ixOf (fun y : Nod => decide (y.id = x.1)) t).toNat, by omega⟩
      have hn : n < t.length := by omega
      by_cases h2 : (attN g t x.1 x.2).mode = 3
      · have hB : defB g t x = false := by simp [defB, h2]
        ((try with_reducible refine mkQI ?_); (repeat ((first | (with_reducible refine mkQU ?_) | simp only [brGen]); try simp (maxSteps := 4000000) +contextual only [↓ S2, S2, vIte, ↓reduceIte, Int.reduceNe, Nat.reduceEqDiff, reduceCtorEq, Nat.reduceLeDiff, Nat.reduceAdd, Nat.reduceLT, hget_c, hset_c, hdel_c, neN, neA_cons, neA_nil, h1, h2])); (try simp +contextual (disch := omega) only [Z2, h1, h2]); (repeat' (first | (with_reducible intro h) | (with_reducible refine And.intro (by omega) ?_) | (with_reducible refine exP (by omega) ?_) | (with_reducible apply And.intro))))
        all_goals first | exact .inr ⟨hB, rfl, [], rfl⟩ | (exfalso; omega)
      ((try with_reducible refine mkQI ?_); (repeat ((first | (with_reducible refine mkQU ?_) | simp only [brGen]); try simp (maxSteps := 4000000) +contextual only [↓ S2, S2, vIte, ↓reduceIte, Int.reduceNe, Nat.reduceEqDiff, reduceCtorEq, Nat.reduceLeDiff, Nat.reduceAdd, Nat.reduceLT, hget_c, hset_c, hdel_c, neN, neA_cons, neA_nil, h1, h2])); (try simp +contextual (disch := omega) only [Z2, h1, h2]); (repeat' (first | (with_reducible intro h) | (with_reducible refine And.intro (by omega) ?_) | (with_reducible refine exP (by omega) ?_) | (with_reducible apply And.intro))))
      all_goals try (exfalso; omega)
      refine callS.eq (w204 t x.1) ?_
      by_cases h3 : (attN g t x.1 x.2).mode = 1
      · have ho : ownN g t x = (t[n].parent, t[n].place) := by simp only [ownN, if_pos h3, hin, Int.toNat_natCast]; rw [getD_lt hn]
        by_cases hr : 0 ≤ t[n].parent ∧ t[n].parent < t.length
        · obtain ⟨m, hm⟩ : ∃ m : Nat, t[n].parent = m := ⟨(t[n].parent).toNat, by omega⟩
          have hmt : m < t.length := by omega
          have hrr : 0 ≤ (m : Int) ∧ (m : Int) < t.length := by omega
          have hgt : t.getD m nodZ = t[m] := getD_lt hmt
          ((try with_reducible refine mkQI ?_); (repeat ((first | (with_reducible refine mkQU ?_) | simp only [brGen]); try simp (maxSteps := 4000000) +contextual only [↓ S2, S2, vIte, ↓reduceIte, Int.reduceNe, Nat.reduceEqDiff, reduceCtorEq, Nat.reduceLeDiff, Nat.reduceAdd, Nat.reduceLT, hget_c, hset_c, hdel_c, neN, neA_cons, neA_nil, h1, h2, h3, hin])); (try simp +contextual (disch := omega) only [Z2, h1, h2, h3, hin]); (repeat' (first | (with_reducible intro h) | (with_reducible refine And.intro (by omega) ?_) | (with_reducible refine exP (by omega) ?_) | (with_reducible apply And.intro))))
          all_goals try (exfalso; omega)
          refine callS.eq (w201 t _) ?_
          ((try with_reducible refine mkQI ?_); (repeat ((first | (with_reducible refine mkQU ?_) | simp only [brGen]); try simp (maxSteps := 4000000) +contextual only [↓ S2, S2, vIte, ↓reduceIte, Int.reduceNe, Nat.reduceEqDiff, reduceCtorEq, Nat.reduceLeDiff, Nat.reduceAdd, Nat.reduceLT, hget_c, hset_c, hdel_c, neN, neA_cons, neA_nil, hm, hrr])); (try simp +contextual (disch := omega) only [Z2, hm, hrr]); (repeat' (first | (with_reducible intro h) | (with_reducible refine And.intro (by omega) ?_) | (with_reducible refine exP (by omega) ?_) | (with_reducible apply And.intro))))
          all_goals try (exfalso; omega)
          refine callS.eq (w202 g _ hg) ?_
          ((try with_reducible refine mkQI ?_); (repeat ((first | (with_reducible refine mkQU ?_) | simp only [brGen]); try simp (maxSteps := 4000000) +contextual only [↓ S2, S2, vIte, ↓reduceIte, Int.reduceNe, Nat.reduceEqDiff, reduceCtorEq, Nat.reduceLeDiff, Nat.reduceAdd, Nat.reduceLT, hget_c, hset_c, hdel_c, neN, neA_cons, neA_nil, hm])); (try simp +contextual (disch := omega) only [Z2, hm]); (repeat' (first | (with_reducible intro h) | (with_reducible refine And.intro (by omega) ?_) | (with_reducible refine exP (by omega) ?_) | (with_reducible apply And.intro))))
          all_goals try (exfalso; omega)
          refine callS.of (o205 (fRul g.rules t[m].rule) (t[n].place, x.2) (smRu_f hg _) _) ?_
          rintro v H' ⟨q, rfl, rfl⟩ hq
          by_cases h5 : (eqnF (fRul g.rules t[m].rule) (t[n].place, x.2)).isSome = true
          · have hB : defB g t x = true := by simp [defB, h1, h2, ho, hm, h5, hmt, hgt]
            have hE : defE g t x = eqnE (fRul g.rules t[m].rule) (t[n].place, x.2) := by simp only [defE, hB, if_true, ho, hm, Int.toNat_natCast, hgt]
            have hO : defO g t x = m := by simp only [defO, hB, if_true, ho, hm]
            rw [hE, hO]
            ((try with_reducible refine mkQI ?_); (repeat ((first | (with_reducible refine mkQU ?_) | simp only [brGen]); try simp (maxSteps := 4000000) +contextual only [↓ S2, S2, vIte, ↓reduceIte, Int.reduceNe, Nat.reduceEqDiff, reduceCtorEq, Nat.reduceLeDiff, Nat.reduceAdd, Nat.reduceLT, hget_c, hset_c, hdel_c, neN, neA_cons, neA_nil, h5, hm])); (try simp +contextual (disch := omega) only [Z2, h5, hm]); (repeat' (first | (with_reducible intro h) | (with_reducible refine And.intro (by omega) ?_) | (with_reducible refine exP (by omega) ?_) | (with_reducible apply And.intro))))
            exact .inl ⟨hB, q, [_], rfl, rfl⟩
          · have h5' : (eqnF (fRul g.rules t[m].rule) (t[n].place, x.2)).isSome = false := by simpa using h5
            have hB : defB g t x = false := by simp only [defB, ho, hm, Int.toNat_natCast, hgt, h5', Bool.and_false]
            ((try with_reducible refine mkQI ?_); (repeat ((first | (with_reducible refine mkQU ?_) | simp only [brGen]); try simp (maxSteps := 4000000) +contextual only [↓ S2, S2, vIte, ↓reduceIte, Int.reduceNe, Nat.reduceEqDiff, reduceCtorEq, Nat.reduceLeDiff, Nat.reduceAdd, Nat.reduceLT, hget_c, hset_c, hdel_c, neN, neA_cons, neA_nil, h5'])); (try simp +contextual (disch := omega) only [Z2, h5']); (repeat' (first | (with_reducible intro h) | (with_reducible refine And.intro (by omega) ?_) | (with_reducible refine exP (by omega) ?_) | (with_reducible apply And.intro))))
            exact .inr ⟨hB, rfl, [_, _], rfl⟩
        · have hB : defB g t x = false := by simp only [defB, ho, decide_eq_false hr, Bool.and_false, Bool.false_and]
          ((try with_reducible refine mkQI ?_); (repeat ((first | (with_reducible refine mkQU ?_) | simp only [brGen]); try simp (maxSteps := 4000000) +contextual only [↓ S2, S2, vIte, ↓reduceIte, Int.reduceNe, Nat.reduceEqDiff, reduceCtorEq, Nat.reduceLeDiff, Nat.reduceAdd, Nat.reduceLT, hget_c, hset_c, hdel_c, neN, neA_cons, neA_nil, h1, h2, h3, hin])); (try simp +contextual (disch := omega) only [Z2, h1, h2, h3, hin]); (repeat' (first | (with_reducible intro h) | (with_reducible refine And.intro (by omega) ?_) | (with_reducible refine exP (by omega) ?_) | (with_reducible apply And.intro))))
          all_goals try (exfalso; omega)
          refine callS.eq (w201 t _) ?_
          ((try with_reducible refine mkQI ?_); (repeat ((first | (with_reducible refine mkQU ?_) | simp only [brGen]); try simp (maxSteps := 4000000) +contextual only [↓ S2, S2, vIte, ↓reduceIte, Int.reduceNe, Nat.reduceEqDiff, reduceCtorEq, Nat.reduceLeDiff, Nat.reduceAdd, Nat.reduceLT, hget_c, hset_c, hdel_c, neN, neA_cons, neA_nil, hr])); (try simp +contextual (disch := omega) only [Z2, hr]); (repeat' (first | (with_reducible intro h) | (with_reducible refine And.intro (by omega) ?_) | (with_reducible refine exP (by omega) ?_) | (with_reducible apply And.intro))))
          exact .inr ⟨hB, rfl, [_], rfl⟩
      · have ho : ownN g t x = ((n : Int), 0) := by simp only [ownN, if_neg h3, hin]
        by_cases hr : 0 ≤ (n : Int) ∧ (n : Int) < t.length
        · obtain ⟨m, hm⟩ : ∃ m : Nat, (n : Int) = m := ⟨((n : Int)).toNat, by omega⟩
          have hmt : m < t.length := by omega
          have hrr : 0 ≤ (m : Int) ∧ (m : Int) < t.length := by omega
          have hgt : t.getD m nodZ = t[m] := getD_lt hmt
          ((try with_reducible refine mkQI ?_); (repeat ((first | (with_reducible refine mkQU ?_) | simp only [brGen]); try simp (maxSteps := 4000000) +contextual only [↓ S2, S2, vIte, ↓reduceIte, Int.reduceNe, Nat.reduceEqDiff, reduceCtorEq, Nat.reduceLeDiff, Nat.reduceAdd, Nat.reduceLT, hget_c, hset_c, hdel_c, neN, neA_cons, neA_nil, h1, h2, h3, hin])); (try simp +contextual (disch := omega) only [Z2, h1, h2, h3, hin]); (repeat' (first | (with_reducible intro h) | (with_reducible refine And.intro (by omega) ?_) | (with_reducible refine exP (by omega) ?_) | (with_reducible apply And.intro))))
          all_goals try (exfalso; omega)
          refine callS.eq (w201 t _) ?_
          ((try with_reducible refine mkQI ?_); (repeat ((first | (with_reducible refine mkQU ?_) | simp only [brGen]); try simp (maxSteps := 4000000) +contextual only [↓ S2, S2, vIte, ↓reduceIte, Int.reduceNe, Nat.reduceEqDiff, reduceCtorEq, Nat.reduceLeDiff, Nat.reduceAdd, Nat.reduceLT, hget_c, hset_c, hdel_c, neN, neA_cons, neA_nil, hm, hrr])); (try simp +contextual (disch := omega) only [Z2, hm, hrr]); (repeat' (first | (with_reducible intro h) | (with_reducible refine And.intro (by omega) ?_) | (with_reducible refine exP (by omega) ?_) | (with_reducible apply And.intro))))
          all_goals try (exfalso; omega)
          refine callS.eq (w202 g _ hg) ?_
          ((try with_reducible refine mkQI ?_); (repeat ((first | (with_reducible refine mkQU ?_) | simp only [brGen]); try simp (maxSteps := 4000000) +contextual only [↓ S2, S2, vIte, ↓reduceIte, Int.reduceNe, Nat.reduceEqDiff, reduceCtorEq, Nat.reduceLeDiff, Nat.reduceAdd, Nat.reduceLT, hget_c, hset_c, hdel_c, neN, neA_cons, neA_nil, hm])); (try simp +contextual (disch := omega) only [Z2, hm]); (repeat' (first | (with_reducible intro h) | (with_reducible refine And.intro (by omega) ?_) | (with_reducible refine exP (by omega) ?_) | (with_reducible apply And.intro))))
          all_goals try (exfalso; omega)
          refine callS.of (o205 (fRul g.rules t[m].rule) ((0 : Int), x.2) (smRu_f hg _) _) ?_
          rintro v H' ⟨q, rfl, rfl⟩ hq
          by_cases h5 : (eqnF (fRul g.rules t[m].rule) ((0 : Int), x.2)).isSome = true
          · have hB : defB g t x = true := by simp [defB, h1, h2, ho, hm, h5, hmt, hgt]
            have hE : defE g t x = eqnE (fRul g.rules t[m].rule) ((0 : Int), x.2) := by simp only [defE, hB, if_true, ho, hm, Int.toNat_natCast, hgt]
            have hO : defO g t x = m := by simp only [defO, hB, if_true, ho, hm]
            rw [hE, hO]
            ((try with_reducible refine mkQI ?_); (repeat ((first | (with_reducible refine mkQU ?_) | simp only [brGen]); try simp (maxSteps := 4000000) +contextual only [↓ S2, S2, vIte, ↓reduceIte, Int.reduceNe, Nat.reduceEqDiff, reduceCtorEq, Nat.reduceLeDiff, Nat.reduceAdd, Nat.reduceLT, hget_c, hset_c, hdel_c, neN, neA_cons, neA_nil, h5, hm])); (try simp +contextual (disch := omega) only [Z2, h5, hm]); (repeat' (first | (with_reducible intro h) | (with_reducible refine And.intro (by omega) ?_) | (with_reducible refine exP (by omega) ?_) | (with_reducible apply And.intro))))
            exact .inl ⟨hB, q, [_], rfl, rfl⟩
          · have h5' : (eqnF (fRul g.rules t[m].rule) ((0 : Int), x.2)).isSome = false := by simpa using h5
            have hB : defB g t x = false := by simp only [defB, ho, hm, Int.toNat_natCast, hgt, h5', Bool.and_false]
            ((try with_reducible refine mkQI ?_); (repeat ((first | (with_reducible refine mkQU ?_) | simp only [brGen]); try simp (maxSteps := 4000000) +contextual only [↓ S2, S2, vIte, ↓reduceIte, Int.reduceNe, Nat.reduceEqDiff, reduceCtorEq, Nat.reduceLeDiff, Nat.reduceAdd, Nat.reduceLT, hget_c, hset_c, hdel_c, neN, neA_cons, neA_nil, h5'])); (try simp +contextual (disch := omega) only [Z2, h5']); (repeat' (first | (with_reducible intro h) | (with_reducible refine And.intro (by omega) ?_) | (with_reducible refine exP (by omega) ?_) | (with_reducible apply And.intro))))
            exact .inr ⟨hB, rfl, [_, _], rfl⟩
        · exfalso; omega
    · have h1' : hasN g t x.1 x.2 = false := by simpa using h1
      have hB : defB g t x = false := by simp [defB, h1']
      ((try with_reducible refine mkQI ?_); (repeat ((first | (with_reducible refine mkQU ?_) | simp only [brGen]); try simp (maxSteps := 4000000) +contextual only [↓ S2, S2, vIte, ↓reduceIte, Int.reduceNe, Nat.reduceEqDiff, reduceCtorEq, Nat.reduceLeDiff, Nat.reduceAdd, Nat.reduceLT, hget_c, hset_c, hdel_c, neN, neA_cons, neA_nil, h1'])); (try simp +contextual (disch := omega) only [Z2, h1']); (repeat' (first | (with_reducible intro h) | (with_reducible refine And.intro (by omega) ?_) | (with_reducible refine exP (by omega) ?_) | (with_reducible apply And.intro))))
      all_goals first | exact .inr ⟨hB, rfl, [], rfl⟩ | (exfalso; omega)
  refine h0.fr ?_
  rintro v H' (⟨hB, q, H2, rfl, rfl⟩ | ⟨hB, rfl, H2, rfl⟩)
  · rw [hB]
    exact ⟨_, _, FR.perm (H := (q, 7, (defE g t x).args.map ExO) :: H2) (L := [(q, 7, (defE g t x).args.map ExO)]) (by simp [subH, hget, names]), _, ⟨q, rfl, rfl⟩, rfl⟩
  · have hE : defE g t x = expZ := by simp [defE, hB]
    have hO : defO g t x = 0 := by simp [defO, hB]
    rw [hB, hE, hO]
    refine ⟨_, _, FR.trans (FR.perm (H := H2) (L := []) trivial) (FR.trans (FR.addv (r := vname ([] ++ H)) (sz := 7) (vname_odd _) (vname_new _)) (FR.sub (.tup (.cons (.agg (nilL_bor (l := [_, _, _, _, _, _, _]) (r := vname ([] ++ H)) (sz := 7))) (.cons .refl .nil))))), _, ⟨vname ([] ++ H), rfl, rfl⟩, rfl⟩
end Go.Proofs.YtbdmpkidcpblaaaGreat

namespace Go.Proofs.YtbdmpkidcpblaaaGreat
open Go.Gh
set_option maxRecDepth 20000
set_option linter.unusedSimpArgs false
set_option linter.unusedVariables false
theorem q138 (g : Gram) (t : List Nod) (x : Int × ByteArray) (hg : smGr g) (hl : t.length ≤ 1048576) : Pure Tryz.prog 138 [Gr g, Tr t, Ins x] (· = .tup [DfG (defO g t x) (defE g t x), B (defB g t x)]) :=
  Pure.bor ((o138 g t x hg hl []).mono fun v H' ⟨H1, ⟨r, h1, h2⟩, h3⟩ => by
    subst h1; subst h2; subst h3
    exact .tup (.cons (bor_Df hget_new rfl) (.cons .refl .nil)))
end Go.Proofs.YtbdmpkidcpblaaaGreat

