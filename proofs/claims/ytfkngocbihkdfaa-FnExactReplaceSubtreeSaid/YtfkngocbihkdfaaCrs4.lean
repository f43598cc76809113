/- The law FnExactReplaceSubtree returns true whatever the input, and the input reads behind the call as before. No condition. -/
import Derived.Test.YtfkngocbihkdfaaCrs3
namespace Go.Proofs.Ytfkngocbihkdfaa
open Go.Gh
set_option maxRecDepth 20000
set_option linter.unusedSimpArgs false
set_option linter.unusedVariables false
theorem q12 (t : List Nod) (i : Int) (sub : List Nod) (hl : t.length ≤ 1048576) (hx : ∀ x ∈ t, x.kids.length ≤ 1048576) (hsl : sub.length ≤ 1048576) (hsx : ∀ x ∈ sub, x.kids.length ≤ 1048576) : Pure Try.prog 12 [Tr t, I i, Tr sub] (· = Tr (repT t i sub)) :=
  Pure.bor ((o12 t i sub hl hx hsl hsx []).mono fun g H' ⟨r, h1, h2⟩ => by
    subst h1; subst h2
    exact bor_Tr hget_new rfl)
theorem q13 (t : List Nod) (i : Int) (sub : List Nod) (hl : t.length ≤ 1048576) (hx : ∀ x ∈ t, x.kids.length ≤ 1048576) (hsl : sub.length ≤ 1048576) (hsx : ∀ x ∈ sub, x.kids.length ≤ 1048576) : Pure Try.prog 13 [Tr t, I i, Tr sub] (· = Tr (repT t i sub)) :=
  Pure.bor ((o13 t i sub hl hx hsl hsx []).mono fun g H' ⟨H1, ⟨r, h1, h2⟩, h3⟩ => by
    subst h1; subst h2; subst h3
    exact bor_Tr hget_new rfl)
set_option maxHeartbeats 4000000 in
theorem w4 (t : List Nod) (i : Int) (u : List Nod) (hx : ∀ x ∈ t, x.rule.size ≤ maxLen) (hu : ∀ x ∈ u, x.rule.size ≤ maxLen) : Pure Try.prog 4 [Tr t, I i, Tr u] (· = B true) := by
  refine gstart mxd i4 rfl (by simp) ?_; simp (maxSteps := 2000000) only [↓ S2, S2, vIte, ↓reduceIte, Int.reduceNe, Nat.reduceEqDiff, reduceCtorEq, Nat.reduceLeDiff, Nat.reduceAdd, Nat.reduceLT]
  refine callS.eq (w5 t _ (by omega) (by omega) hx) ?_
  ((try simp (maxSteps := 2000000) only [↓ S2, S2, vIte, ↓reduceIte, Int.reduceNe, Nat.reduceEqDiff, reduceCtorEq, Nat.reduceLeDiff, Nat.reduceAdd, Nat.reduceLT]); (repeat (simp only [brGen]; try simp (maxSteps := 2000000) only [↓ S2, S2, vIte, ↓reduceIte, Int.reduceNe, Nat.reduceEqDiff, reduceCtorEq, Nat.reduceLeDiff, Nat.reduceAdd, Nat.reduceLT])); (try simp +contextual (disch := omega) only [Z2]); (repeat' (first | (with_reducible intro h) | (with_reducible refine And.intro (by omega) ?_) | (with_reducible refine exP (by omega) ?_) | (with_reducible apply And.intro))))
  have hb := szTr h
  have hm := mkEnd_small h
  have hl1 := szv_nn h
  have hl2 := szv_pos hl1
  clear h
  refine callS.eq (w5 u _ (by omega) (by omega) hu) ?_
  ((try simp (maxSteps := 2000000) only [↓ S2, S2, vIte, ↓reduceIte, Int.reduceNe, Nat.reduceEqDiff, reduceCtorEq, Nat.reduceLeDiff, Nat.reduceAdd, Nat.reduceLT]); (repeat (simp only [brGen]; try simp (maxSteps := 2000000) only [↓ S2, S2, vIte, ↓reduceIte, Int.reduceNe, Nat.reduceEqDiff, reduceCtorEq, Nat.reduceLeDiff, Nat.reduceAdd, Nat.reduceLT])); (try simp +contextual (disch := omega) only [Z2]); (repeat' (first | (with_reducible intro h) | (with_reducible refine And.intro (by omega) ?_) | (with_reducible refine exP (by omega) ?_) | (with_reducible apply And.intro))))
  have hb2 := szTr h
  have hm2 := mkEnd_small h (by omega)
  have hst : mkEnd 1 (repT t i u) ≤ 12582914 := Int.le_trans (mkEnd_repT t i u) (by omega)
  have hsl : (repT t i u).length ≤ 2097152 := Nat.le_trans (repT_len t i u) (by omega)
  have hsx : BorL [] [Tr t, I i, Tr u] [Tr t, I i, Tr u] := .cons .refl (.cons .refl (.cons .refl .nil))
  generalize hs : repT t i u = s at *
  have hme := mkEnd_le 1 t
  have hmu := mkEnd_le 1 u
  have hms := mkEnd_le 1 s
  refine callS.eq (w7 t hb.1 hb.2) ?_
  ((try simp (maxSteps := 2000000) only [↓ S2, S2, vIte, ↓reduceIte, Int.reduceNe, Nat.reduceEqDiff, reduceCtorEq, Nat.reduceLeDiff, Nat.reduceAdd, Nat.reduceLT]); (repeat (simp only [brGen]; try simp (maxSteps := 2000000) only [↓ S2, S2, vIte, ↓reduceIte, Int.reduceNe, Nat.reduceEqDiff, reduceCtorEq, Nat.reduceLeDiff, Nat.reduceAdd, Nat.reduceLT])); (try simp +contextual (disch := omega) only [Z2]); (repeat' (first | (with_reducible intro h) | (with_reducible refine And.intro (by omega) ?_) | (with_reducible refine exP (by omega) ?_) | (with_reducible apply And.intro))))
  refine callS.eq (w7 u hb2.1 hb2.2) ?_
  ((try simp (maxSteps := 2000000) only [↓ S2, S2, vIte, ↓reduceIte, Int.reduceNe, Nat.reduceEqDiff, reduceCtorEq, Nat.reduceLeDiff, Nat.reduceAdd, Nat.reduceLT]); (repeat (simp only [brGen]; try simp (maxSteps := 2000000) only [↓ S2, S2, vIte, ↓reduceIte, Int.reduceNe, Nat.reduceEqDiff, reduceCtorEq, Nat.reduceLeDiff, Nat.reduceAdd, Nat.reduceLT])); (try simp +contextual (disch := omega) only [Z2]); (repeat' (first | (with_reducible intro h) | (with_reducible refine And.intro (by omega) ?_) | (with_reducible refine exP (by omega) ?_) | (with_reducible apply And.intro))))
  refine callS.eq (q12 t i u hb.1 hb.2 hb2.1 hb2.2) ?_
  rw [hs]
  ((try simp (maxSteps := 2000000) only [↓ S2, S2, vIte, ↓reduceIte, Int.reduceNe, Nat.reduceEqDiff, reduceCtorEq, Nat.reduceLeDiff, Nat.reduceAdd, Nat.reduceLT]); (repeat (simp only [brGen]; try simp (maxSteps := 2000000) only [↓ S2, S2, vIte, ↓reduceIte, Int.reduceNe, Nat.reduceEqDiff, reduceCtorEq, Nat.reduceLeDiff, Nat.reduceAdd, Nat.reduceLT])); (try simp +contextual (disch := omega) only [Z2]); (repeat' (first | (with_reducible intro h) | (with_reducible refine And.intro (by omega) ?_) | (with_reducible refine exP (by omega) ?_) | (with_reducible apply And.intro))))
  refine callS.of (o7 t hb.1 hb.2 _) ?_
  rintro g H' ⟨rx, rfl, rfl⟩ -
  ((try simp (maxSteps := 2000000) only [↓ S2, S2, vIte, ↓reduceIte, Int.reduceNe, Nat.reduceEqDiff, reduceCtorEq, Nat.reduceLeDiff, Nat.reduceAdd, Nat.reduceLT]); (repeat (simp only [brGen]; try simp (maxSteps := 2000000) only [↓ S2, S2, vIte, ↓reduceIte, Int.reduceNe, Nat.reduceEqDiff, reduceCtorEq, Nat.reduceLeDiff, Nat.reduceAdd, Nat.reduceLT])); (try simp +contextual (disch := omega) only [Z2]); (repeat' (first | (with_reducible intro h) | (with_reducible refine And.intro (by omega) ?_) | (with_reducible refine exP (by omega) ?_) | (with_reducible apply And.intro))))
  refine callS.of (o7 u hb2.1 hb2.2 _) ?_
  rintro g H' ⟨ru, rfl, rfl⟩ hn
  replace hn := neH_of hn
  (replace hn := hn; simp only [neH_cons, neH_nil, neA_cons, neA_nil, and_true, true_and] at hn)
  ((try simp (maxSteps := 4000000) +contextual only [↓ S2, S2, vIte, ↓reduceIte, Int.reduceNe, Nat.reduceEqDiff, reduceCtorEq, Nat.reduceLeDiff, Nat.reduceAdd, Nat.reduceLT, hget_c, hset_c, hdel_c, neN, neA_cons, neA_nil, hn]); (repeat (simp only [brGen]; try simp (maxSteps := 4000000) +contextual only [↓ S2, S2, vIte, ↓reduceIte, Int.reduceNe, Nat.reduceEqDiff, reduceCtorEq, Nat.reduceLeDiff, Nat.reduceAdd, Nat.reduceLT, hget_c, hset_c, hdel_c, neN, neA_cons, neA_nil, hn])); (try simp +contextual (disch := omega) only [Z2]); (repeat' (first | (with_reducible intro h) | (with_reducible refine And.intro (by omega) ?_) | (with_reducible refine exP (by omega) ?_) | (with_reducible apply And.intro))))
  refine callS.lend (fun H0 => o13 t i u hb.1 hb.2 hb2.1 hb2.2 H0) (.cons (bor_Tr (by simp [hget_c, hn]) rfl) (.cons .refl (.cons (bor_Tr hget_new rfl) .nil))) (by rw [hs]; rintro g H1 ⟨r, rfl, rfl⟩; simp [noD, noDH, noDL_eq]) ?_
  rw [hs]
  rintro g H1 ⟨rg, rfl, rfl⟩ hng
  simp only [List.cons_append, List.nil_append] at hng ⊢
  replace hng := neH_of hng
  (replace hng := hng; simp only [neH_cons, neH_nil, neA_cons, neA_nil, and_true, true_and] at hng)
  ((try simp (maxSteps := 4000000) +contextual only [↓ S2, S2, vIte, ↓reduceIte, Int.reduceNe, Nat.reduceEqDiff, reduceCtorEq, Nat.reduceLeDiff, Nat.reduceAdd, Nat.reduceLT, hget_c, hset_c, hdel_c, neN, neA_cons, neA_nil, hng]); (repeat (simp only [brGen]; try simp (maxSteps := 4000000) +contextual only [↓ S2, S2, vIte, ↓reduceIte, Int.reduceNe, Nat.reduceEqDiff, reduceCtorEq, Nat.reduceLeDiff, Nat.reduceAdd, Nat.reduceLT, hget_c, hset_c, hdel_c, neN, neA_cons, neA_nil, hng])); (try simp +contextual (disch := omega) only [Z2]); (repeat' (first | (with_reducible intro h) | (with_reducible refine And.intro (by omega) ?_) | (with_reducible refine exP (by omega) ?_) | (with_reducible apply And.intro))))
  refine callS.borA (w9 s s) (.cons (bor_Tr hget_new rfl) (.cons .refl .nil)) rfl ?_
  ((try simp (maxSteps := 4000000) +contextual only [↓ S2, S2, vIte, ↓reduceIte, Int.reduceNe, Nat.reduceEqDiff, reduceCtorEq, Nat.reduceLeDiff, Nat.reduceAdd, Nat.reduceLT, hget_c, hset_c, hdel_c, neN, neA_cons, neA_nil, hng]); (repeat (simp only [brGen]; try simp (maxSteps := 4000000) +contextual only [↓ S2, S2, vIte, ↓reduceIte, Int.reduceNe, Nat.reduceEqDiff, reduceCtorEq, Nat.reduceLeDiff, Nat.reduceAdd, Nat.reduceLT, hget_c, hset_c, hdel_c, neN, neA_cons, neA_nil, hng])); (try simp +contextual (disch := omega) only [Z2]); (repeat' (first | (with_reducible intro h) | (with_reducible refine And.intro (by omega) ?_) | (with_reducible refine exP (by omega) ?_) | (with_reducible apply And.intro))))
  refine callS.eq (w7 t hb.1 hb.2) ?_
  ((try simp (maxSteps := 4000000) +contextual only [↓ S2, S2, vIte, ↓reduceIte, Int.reduceNe, Nat.reduceEqDiff, reduceCtorEq, Nat.reduceLeDiff, Nat.reduceAdd, Nat.reduceLT, hget_c, hset_c, hdel_c, neN, neA_cons, neA_nil, hng]); (repeat (simp only [brGen]; try simp (maxSteps := 4000000) +contextual only [↓ S2, S2, vIte, ↓reduceIte, Int.reduceNe, Nat.reduceEqDiff, reduceCtorEq, Nat.reduceLeDiff, Nat.reduceAdd, Nat.reduceLT, hget_c, hset_c, hdel_c, neN, neA_cons, neA_nil, hng])); (try simp +contextual (disch := omega) only [Z2]); (repeat' (first | (with_reducible intro h) | (with_reducible refine And.intro (by omega) ?_) | (with_reducible refine exP (by omega) ?_) | (with_reducible apply And.intro))))
  refine callS.borA (w9 t t) (.cons (bor_Tr (by simp [hget_c, hng]) rfl) (.cons .refl .nil)) rfl ?_
  ((try simp (maxSteps := 4000000) +contextual only [↓ S2, S2, vIte, ↓reduceIte, Int.reduceNe, Nat.reduceEqDiff, reduceCtorEq, Nat.reduceLeDiff, Nat.reduceAdd, Nat.reduceLT, hget_c, hset_c, hdel_c, neN, neA_cons, neA_nil, hng]); (repeat (simp only [brGen]; try simp (maxSteps := 4000000) +contextual only [↓ S2, S2, vIte, ↓reduceIte, Int.reduceNe, Nat.reduceEqDiff, reduceCtorEq, Nat.reduceLeDiff, Nat.reduceAdd, Nat.reduceLT, hget_c, hset_c, hdel_c, neN, neA_cons, neA_nil, hng])); (try simp +contextual (disch := omega) only [Z2]); (repeat' (first | (with_reducible intro h) | (with_reducible refine And.intro (by omega) ?_) | (with_reducible refine exP (by omega) ?_) | (with_reducible apply And.intro))))
  refine callS.eq (w7 u hb2.1 hb2.2) ?_
  ((try simp (maxSteps := 4000000) +contextual only [↓ S2, S2, vIte, ↓reduceIte, Int.reduceNe, Nat.reduceEqDiff, reduceCtorEq, Nat.reduceLeDiff, Nat.reduceAdd, Nat.reduceLT, hget_c, hset_c, hdel_c, neN, neA_cons, neA_nil, hng]); (repeat (simp only [brGen]; try simp (maxSteps := 4000000) +contextual only [↓ S2, S2, vIte, ↓reduceIte, Int.reduceNe, Nat.reduceEqDiff, reduceCtorEq, Nat.reduceLeDiff, Nat.reduceAdd, Nat.reduceLT, hget_c, hset_c, hdel_c, neN, neA_cons, neA_nil, hng])); (try simp +contextual (disch := omega) only [Z2]); (repeat' (first | (with_reducible intro h) | (with_reducible refine And.intro (by omega) ?_) | (with_reducible refine exP (by omega) ?_) | (with_reducible apply And.intro))))
  refine callS.borA (w9 u u) (.cons (bor_Tr (by simp [hget_c, hng]) rfl) (.cons .refl .nil)) rfl ?_
  ((try simp (maxSteps := 4000000) +contextual only [↓ S2, S2, vIte, ↓reduceIte, Int.reduceNe, Nat.reduceEqDiff, reduceCtorEq, Nat.reduceLeDiff, Nat.reduceAdd, Nat.reduceLT, hget_c, hset_c, hdel_c, neN, neA_cons, neA_nil, hng]); (repeat (simp only [brGen]; try simp (maxSteps := 4000000) +contextual only [↓ S2, S2, vIte, ↓reduceIte, Int.reduceNe, Nat.reduceEqDiff, reduceCtorEq, Nat.reduceLeDiff, Nat.reduceAdd, Nat.reduceLT, hget_c, hset_c, hdel_c, neN, neA_cons, neA_nil, hng])); (try simp +contextual (disch := omega) only [Z2]); (repeat' (first | (with_reducible intro h) | (with_reducible refine And.intro (by omega) ?_) | (with_reducible refine exP (by omega) ?_) | (with_reducible apply And.intro))))
  refine callS.of (w10 rx t.length 1 t _ (by simp [hget_c, hng]) rfl (by omega) (by omega)) ?_
  rintro g H' ⟨rfl, rfl⟩ -
  ((try simp (maxSteps := 4000000) +contextual only [↓ S2, S2, vIte, ↓reduceIte, Int.reduceNe, Nat.reduceEqDiff, reduceCtorEq, Nat.reduceLeDiff, Nat.reduceAdd, Nat.reduceLT, hget_c, hset_c, hdel_c, neN, neA_cons, neA_nil, hng]); (repeat (simp only [brGen]; try simp (maxSteps := 4000000) +contextual only [↓ S2, S2, vIte, ↓reduceIte, Int.reduceNe, Nat.reduceEqDiff, reduceCtorEq, Nat.reduceLeDiff, Nat.reduceAdd, Nat.reduceLT, hget_c, hset_c, hdel_c, neN, neA_cons, neA_nil, hng])); (try simp +contextual (disch := omega) only [Z2]); (repeat' (first | (with_reducible intro h) | (with_reducible refine And.intro (by omega) ?_) | (with_reducible refine exP (by omega) ?_) | (with_reducible apply And.intro))))
  refine callS.of (w10 ru u.length (mkEnd 1 t) u _ (by simp [hget_c, hng]) rfl (by omega) (by have := mkEnd_from (mkEnd 1 t) u; omega)) ?_
  rintro g H' ⟨rfl, rfl⟩ -
  have hmf := mkEnd_from (mkEnd 1 t) u
  have hmk : ¬ (mkEnd (mkEnd 1 t) u < 0) := by omega
  ((try simp (maxSteps := 4000000) +contextual only [↓ S2, S2, vIte, ↓reduceIte, Int.reduceNe, Nat.reduceEqDiff, reduceCtorEq, Nat.reduceLeDiff, Nat.reduceAdd, Nat.reduceLT, hget_c, hset_c, hdel_c, neN, neA_cons, neA_nil, hng, hmk]); (repeat (simp only [brGen]; try simp (maxSteps := 4000000) +contextual only [↓ S2, S2, vIte, ↓reduceIte, Int.reduceNe, Nat.reduceEqDiff, reduceCtorEq, Nat.reduceLeDiff, Nat.reduceAdd, Nat.reduceLT, hget_c, hset_c, hdel_c, neN, neA_cons, neA_nil, hng, hmk])); (try simp +contextual (disch := omega) only [Z2]); (repeat' (first | (with_reducible intro h) | (with_reducible refine And.intro (by omega) ?_) | (with_reducible refine exP (by omega) ?_) | (with_reducible apply And.intro))))
  refine callS.borA (w9 s s) (.cons (bor_Tr hget_new rfl) (.cons .refl .nil)) rfl ?_
  ((try simp (maxSteps := 4000000) +contextual only [↓ S2, S2, vIte, ↓reduceIte, Int.reduceNe, Nat.reduceEqDiff, reduceCtorEq, Nat.reduceLeDiff, Nat.reduceAdd, Nat.reduceLT, hget_c, hset_c, hdel_c, neN, neA_cons, neA_nil, hng]); (repeat (simp only [brGen]; try simp (maxSteps := 4000000) +contextual only [↓ S2, S2, vIte, ↓reduceIte, Int.reduceNe, Nat.reduceEqDiff, reduceCtorEq, Nat.reduceLeDiff, Nat.reduceAdd, Nat.reduceLT, hget_c, hset_c, hdel_c, neN, neA_cons, neA_nil, hng])); (try simp +contextual (disch := omega) only [Z2]); (repeat' (first | (with_reducible intro h) | (with_reducible refine And.intro (by omega) ?_) | (with_reducible refine exP (by omega) ?_) | (with_reducible apply And.intro))))
  refine callS.of (w10 rg s.length 1 s _ hget_new rfl (by omega) (by omega)) ?_
  rintro g H' ⟨rfl, rfl⟩ -
  rw [hset_new]
  ((try simp (maxSteps := 4000000) +contextual only [↓ S2, S2, vIte, ↓reduceIte, Int.reduceNe, Nat.reduceEqDiff, reduceCtorEq, Nat.reduceLeDiff, Nat.reduceAdd, Nat.reduceLT, hget_c, hset_c, hdel_c, neN, neA_cons, neA_nil, hng]); (repeat (simp only [brGen]; try simp (maxSteps := 4000000) +contextual only [↓ S2, S2, vIte, ↓reduceIte, Int.reduceNe, Nat.reduceEqDiff, reduceCtorEq, Nat.reduceLeDiff, Nat.reduceAdd, Nat.reduceLT, hget_c, hset_c, hdel_c, neN, neA_cons, neA_nil, hng])); (try simp +contextual (disch := omega) only [Z2]); (repeat' (first | (with_reducible intro h) | (with_reducible refine And.intro (by omega) ?_) | (with_reducible refine exP (by omega) ?_) | (with_reducible apply And.intro))))
  refine callS.borA (w11 1 s (by omega) (by omega)) (.cons (bor_Tr hget_new (mkNods_len _ _)) (.cons .refl .nil)) rfl ?_
  have hmq : ¬ (mkEnd 1 s < 0) := by omega
  ((try simp (maxSteps := 4000000) +contextual only [↓ S2, S2, vIte, ↓reduceIte, Int.reduceNe, Nat.reduceEqDiff, reduceCtorEq, Nat.reduceLeDiff, Nat.reduceAdd, Nat.reduceLT, hget_c, hset_c, hdel_c, neN, neA_cons, neA_nil, hng, hmq]); (repeat (simp only [brGen]; try simp (maxSteps := 4000000) +contextual only [↓ S2, S2, vIte, ↓reduceIte, Int.reduceNe, Nat.reduceEqDiff, reduceCtorEq, Nat.reduceLeDiff, Nat.reduceAdd, Nat.reduceLT, hget_c, hset_c, hdel_c, neN, neA_cons, neA_nil, hng, hmq])); (try simp +contextual (disch := omega) only [Z2]); (repeat' (first | (with_reducible intro h) | (with_reducible refine And.intro (by omega) ?_) | (with_reducible refine exP (by omega) ?_) | (with_reducible apply And.intro))))
  refine callS.eq (w7 t hb.1 hb.2) ?_
  ((try simp (maxSteps := 4000000) +contextual only [↓ S2, S2, vIte, ↓reduceIte, Int.reduceNe, Nat.reduceEqDiff, reduceCtorEq, Nat.reduceLeDiff, Nat.reduceAdd, Nat.reduceLT, hget_c, hset_c, hdel_c, neN, neA_cons, neA_nil, hng]); (repeat (simp only [brGen]; try simp (maxSteps := 4000000) +contextual only [↓ S2, S2, vIte, ↓reduceIte, Int.reduceNe, Nat.reduceEqDiff, reduceCtorEq, Nat.reduceLeDiff, Nat.reduceAdd, Nat.reduceLT, hget_c, hset_c, hdel_c, neN, neA_cons, neA_nil, hng])); (try simp +contextual (disch := omega) only [Z2]); (repeat' (first | (with_reducible intro h) | (with_reducible refine And.intro (by omega) ?_) | (with_reducible refine exP (by omega) ?_) | (with_reducible apply And.intro))))
  refine callS.eq (w7 u hb2.1 hb2.2) ?_
  ((try simp (maxSteps := 4000000) +contextual only [↓ S2, S2, vIte, ↓reduceIte, Int.reduceNe, Nat.reduceEqDiff, reduceCtorEq, Nat.reduceLeDiff, Nat.reduceAdd, Nat.reduceLT, hget_c, hset_c, hdel_c, neN, neA_cons, neA_nil, hng]); (repeat (simp only [brGen]; try simp (maxSteps := 4000000) +contextual only [↓ S2, S2, vIte, ↓reduceIte, Int.reduceNe, Nat.reduceEqDiff, reduceCtorEq, Nat.reduceLeDiff, Nat.reduceAdd, Nat.reduceLT, hget_c, hset_c, hdel_c, neN, neA_cons, neA_nil, hng])); (try simp +contextual (disch := omega) only [Z2]); (repeat' (first | (with_reducible intro h) | (with_reducible refine And.intro (by omega) ?_) | (with_reducible refine exP (by omega) ?_) | (with_reducible apply And.intro))))
  refine callS.eq (q13 t i u hb.1 hb.2 hb2.1 hb2.2) ?_
  rw [hs]
  ((try simp (maxSteps := 4000000) +contextual only [↓ S2, S2, vIte, ↓reduceIte, Int.reduceNe, Nat.reduceEqDiff, reduceCtorEq, Nat.reduceLeDiff, Nat.reduceAdd, Nat.reduceLT, hget_c, hset_c, hdel_c, neN, neA_cons, neA_nil, hng]); (repeat (simp only [brGen]; try simp (maxSteps := 4000000) +contextual only [↓ S2, S2, vIte, ↓reduceIte, Int.reduceNe, Nat.reduceEqDiff, reduceCtorEq, Nat.reduceLeDiff, Nat.reduceAdd, Nat.reduceLT, hget_c, hset_c, hdel_c, neN, neA_cons, neA_nil, hng])); (try simp +contextual (disch := omega) only [Z2]); (repeat' (first | (with_reducible intro h) | (with_reducible refine And.intro (by omega) ?_) | (with_reducible refine exP (by omega) ?_) | (with_reducible apply And.intro))))
  refine callS.eq (w9 s s) ?_
  ((try simp (maxSteps := 4000000) +contextual only [↓ S2, S2, vIte, ↓reduceIte, Int.reduceNe, Nat.reduceEqDiff, reduceCtorEq, Nat.reduceLeDiff, Nat.reduceAdd, Nat.reduceLT, hget_c, hset_c, hdel_c, neN, neA_cons, neA_nil, hng]); (repeat (simp only [brGen]; try simp (maxSteps := 4000000) +contextual only [↓ S2, S2, vIte, ↓reduceIte, Int.reduceNe, Nat.reduceEqDiff, reduceCtorEq, Nat.reduceLeDiff, Nat.reduceAdd, Nat.reduceLT, hget_c, hset_c, hdel_c, neN, neA_cons, neA_nil, hng])); (try simp +contextual (disch := omega) only [Z2]); (repeat' (first | (with_reducible intro h) | (with_reducible refine And.intro (by omega) ?_) | (with_reducible refine exP (by omega) ?_) | (with_reducible apply And.intro))))
  refine callS.borA (w11 1 s (by omega) (by omega)) (.cons (bor_Tr hget_new (mkNods_len _ _)) (.cons .refl .nil)) rfl ?_
  ((try simp (maxSteps := 4000000) +contextual only [↓ S2, S2, vIte, ↓reduceIte, Int.reduceNe, Nat.reduceEqDiff, reduceCtorEq, Nat.reduceLeDiff, Nat.reduceAdd, Nat.reduceLT, hget_c, hset_c, hdel_c, neN, neA_cons, neA_nil, hng, hmq]); (repeat (simp only [brGen]; try simp (maxSteps := 4000000) +contextual only [↓ S2, S2, vIte, ↓reduceIte, Int.reduceNe, Nat.reduceEqDiff, reduceCtorEq, Nat.reduceLeDiff, Nat.reduceAdd, Nat.reduceLT, hget_c, hset_c, hdel_c, neN, neA_cons, neA_nil, hng, hmq])); (try simp +contextual (disch := omega) only [Z2]); (repeat' (first | (with_reducible intro h) | (with_reducible refine And.intro (by omega) ?_) | (with_reducible refine exP (by omega) ?_) | (with_reducible apply And.intro))))
end Go.Proofs.Ytfkngocbihkdfaa

namespace Go.Proofs.Ytfkngocbihkdfaa
open Go.ChangeShapes Go.WideShapes Go.ChangeAt Go.RowKit Go.Gh
theorem Try.own : ownKnob Try.prog.godebug = none := by kernel_rfl
theorem Try.laidOut : laidOutB Try.prog = true := by kernel_rfl
set_option maxRecDepth 100000 in
theorem l4 (os : Os) (started : os.Started) (H : Type) (enc : TypeId × Value → H) :
    ReturnsInHanded {} Try.checked os 4 .any (Rows.fnExactReplaceSubtreeSpec.pre6 enc Try.prog Try.f4 Rows.fnExactReplaceSubtreeRow.domain false) (Rows.fnExactReplaceSubtreeSpec.post enc Try.prog Try.f4 false true false false) := by
  refine returnsInHanded_of_change (C := Try.checked) Try.own started (by kernel_rfl) Try.func4
    (ChangeSpec.witness6 (enc := enc) (C := Try.checked) false ⟨#[], #[.agg #[.slice none 0 0], .int .i64 0, .agg #[.slice none 0 0]], []⟩ 8 (by kernel_rfl) (by kernel_rfl) (by kernel_rfl) (by kernel_rfl)) ?_
  intro W base args ds gs before hval0 hW hcnd _
  have hval : ∀ (j : Nat) t v, Try.f4.params[j]? = some t → args[j]? = some v → Value.okWide Try.prog W .any base t v := hval0
  have hW' := hW
  obtain ⟨p, q, hA0, hV, rfl, hfz, hnd⟩ := hW
  have hA : DataW.TrodAll enc Try.prog W 0 (fun _ => true) true Try.f4.params.toList args.toList ds p := hA0
  rw [Try.params4] at hA hval
  obtain ⟨v0, v1, v2, d0, d1, d2, p0, p1, p2, rfl, rfl, rfl, h0, h1, h2⟩ := trodAll_three hA
  obtain ⟨rfl, rfl⟩ := trodVars_none hV
  obtain ⟨g0, m0, e0⟩ := lift_val (P := Try.prog) 8 (by kernel_rfl) (hval 0 _ v0 rfl rfl) h0
  obtain ⟨g1, m1, e1⟩ := lift_val (P := Try.prog) 8 (by kernel_rfl) (hval 1 _ v1 rfl rfl) h1
  obtain ⟨g2, m2, e2⟩ := lift_val (P := Try.prog) 8 (by kernel_rfl) (hval 2 _ v2 rfl rfl) h2
  obtain ⟨t, rfl, hx⟩ := t_Tr e0
  obtain ⟨i, rfl⟩ := t_int e1
  obtain ⟨u, rfl, hu⟩ := t_Tr e2
  clear hA0 hval0
  simp only [List.append_nil] at hW'
  have hlt := hW'.lt
  refine ((w4 t i u hx hu).out i4 (W := W) (args := [v0, v1, v2]) (.cons0 m0 (.cons0 m1 (.cons0 m2 .nil0)))).mono fun e W' ⟨v, g, D, he, hg, hm, hb⟩ => ?_
  subst he; subst hg
  have hv := MV.val_inv hm
  subst hv
  exact ⟨_, rfl, post_of_below (pa := p0 ++ (p1 ++ p2)) (pv := []) hW' (fun _ _ _ => trodAll_mk1 (shut_bool Try.underlying4 _)) (fun sp hsp => trodAll_mk3 (WideElems.Trod_stays Try.laidOut (by kernel_rfl) (of_decide_eq_true (by kernel_rfl)) h0 (fun x hx => hb.same (hlt x (by simp [hx]))) (fun x hx => hsp x (by simp [hx]))) (WideElems.Trod_stays Try.laidOut (by kernel_rfl) (of_decide_eq_true (by kernel_rfl)) h1 (fun x hx => hb.same (hlt x (by simp [hx]))) (fun x hx => hsp x (by simp [hx]))) (WideElems.Trod_stays Try.laidOut (by kernel_rfl) (of_decide_eq_true (by kernel_rfl)) h2 (fun x hx => hb.same (hlt x (by simp [hx]))) (fun x hx => hsp x (by simp [hx])))) (fun _ _ => rfl) (by simp)
    hb (ok_one (by kernel_rfl) rfl (okWide_bool_mk Try.underlying4 _))⟩
theorem h4 : Rows.FnExactReplaceSubtreeSaid :=
  OpenClaim.holds_of_wide 4 Try.f4 rfl rfl rfl rfl rfl rfl rfl ⟨rfl, rfl, rfl, rfl, rfl⟩ rfl rfl rfl rfl rfl (by kernel_rfl) Try.func4 (by kernel_rfl)
    (of_decide_eq_true (by kernel_rfl)) (by unfold Func.isWrapper; first | (rw [if_pos (by decide +kernel)]; kernel_rfl) | (rw [if_neg (by decide +kernel)]; exact ⟨rfl, rfl⟩))
    (fun os started H enc _ => l4 os started H enc)
end Go.Proofs.Ytfkngocbihkdfaa

