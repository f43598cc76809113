/- The law FnExactTreeCycle returns true whatever the input, and the input reads behind the call as before. No condition. -/
import Derived.Test.YtbdmpkidcpblaaaGreatCyc22
namespace Go.Proofs.YtbdmpkidcpblaaaGreat
open Go.Gh
set_option maxRecDepth 20000
set_option linter.unusedSimpArgs false
set_option linter.unusedVariables false
theorem q9 (g : Gram) (t : List Nod) (hg : smGr g) (hl : t.length ≤ 1048576) (hk : ∀ x ∈ t, x.kids.length ≤ 1048576) : Pure Tryz.prog 9 [Gr g, Tr t] (· = IS (cyL (tabI g t) (tabI g t).length)) :=
  Pure.bor ((o9 g t hg hl hk []).mono fun v H' ⟨H1, ⟨r, h1, h2⟩, h3⟩ => by
    subst h1; subst h2; subst h3
    exact bor_IS hget_new rfl)
theorem q12 (g : Gram) (t : List Nod) (hg : smGr g) (hl : t.length ≤ 1048576) (hk : ∀ x ∈ t, x.kids.length ≤ 1048576) : Pure Tryz.prog 12 [Gr g, Tr t] (· = IS (cyL (tabI g t) (tabI g t).length)) :=
  Pure.bor ((o12 g t hg hl hk []).mono fun v H' ⟨H1, ⟨r, h1, h2⟩, h3⟩ => by
    subst h1; subst h2; subst h3
    exact bor_IS hget_new rfl)
set_option maxHeartbeats 4000000 in
theorem w3 (g : Gram) (t : List Nod) (hg : okGr g) (ht : ∀ x ∈ t, x.rule.size ≤ maxLen) : Pure Tryz.prog 3 [Gr g, Tr t] (· = B true) := by
  refine gstart mxd i3 rfl (by simp) ?_; simp (maxSteps := 2000000) only [↓ S2, S2, vIte, ↓reduceIte, Int.reduceNe, Nat.reduceEqDiff, reduceCtorEq, Nat.reduceLeDiff, Nat.reduceAdd, Nat.reduceLT]
  refine callS.eq (w7 g _ (by omega) (by omega) hg) ?_
  ((try with_reducible refine mkQI ?_); (repeat ((first | (with_reducible refine mkQU ?_) | simp only [brGen]); try simp (maxSteps := 2000000) only [↓ S2, S2, vIte, ↓reduceIte, Int.reduceNe, Nat.reduceEqDiff, reduceCtorEq, Nat.reduceLeDiff, Nat.reduceAdd, Nat.reduceLT])); (try simp +contextual (disch := omega) only [Z2]); (repeat' (first | (with_reducible intro h) | (with_reducible refine And.intro (by omega) ?_) | (with_reducible refine exP (by omega) ?_) | (with_reducible apply And.intro))))
  have h1 := szv_nn h
  have hs := smGr_of (g := g) (by omega)
  have hcg := ctGr g
  rw [szv_pos h1]
  refine callS.eq (w8 t _ (by omega) (by omega) ht) ?_
  ((try with_reducible refine mkQI ?_); (repeat ((first | (with_reducible refine mkQU ?_) | simp only [brGen]); try simp (maxSteps := 2000000) only [↓ S2, S2, vIte, ↓reduceIte, Int.reduceNe, Nat.reduceEqDiff, reduceCtorEq, Nat.reduceLeDiff, Nat.reduceAdd, Nat.reduceLT])); (try simp +contextual (disch := omega) only [Z2]); (repeat' (first | (with_reducible intro h) | (with_reducible refine And.intro (by omega) ?_) | (with_reducible refine exP (by omega) ?_) | (with_reducible apply And.intro))))
  have hb := szTr h (by omega)
  have hm := mkEnd_small h (by omega)
  have hme := mkEnd_le 1 t
  have hTo := (tabI_ok hs t).1
  have hLl := cyL_le (T := tabI g t) (tabI g t).length (Nat.le_refl _)
  have q1 := q9 g t hs hb.1 hb.2
  have q2 := q12 g t hs hb.1 hb.2
  have q3 := o12 g t hs hb.1 hb.2
  generalize cyL (tabI g t) (tabI g t).length = L at *
  generalize tabI g t = TT at *
  refine callS.eq (w10 g hs) ?_
  ((try with_reducible refine mkQI ?_); (repeat ((first | (with_reducible refine mkQU ?_) | simp only [brGen]); try simp (maxSteps := 2000000) only [↓ S2, S2, vIte, ↓reduceIte, Int.reduceNe, Nat.reduceEqDiff, reduceCtorEq, Nat.reduceLeDiff, Nat.reduceAdd, Nat.reduceLT])); (try simp +contextual (disch := omega) only [Z2]); (repeat' (first | (with_reducible intro h) | (with_reducible refine And.intro (by omega) ?_) | (with_reducible refine exP (by omega) ?_) | (with_reducible apply And.intro))))
  refine callS.eq (w11 t hb.1 hb.2) ?_
  ((try with_reducible refine mkQI ?_); (repeat ((first | (with_reducible refine mkQU ?_) | simp only [brGen]); try simp (maxSteps := 2000000) only [↓ S2, S2, vIte, ↓reduceIte, Int.reduceNe, Nat.reduceEqDiff, reduceCtorEq, Nat.reduceLeDiff, Nat.reduceAdd, Nat.reduceLT])); (try simp +contextual (disch := omega) only [Z2]); (repeat' (first | (with_reducible intro h) | (with_reducible refine And.intro (by omega) ?_) | (with_reducible refine exP (by omega) ?_) | (with_reducible apply And.intro))))
  refine callS.eq q1 ?_
  ((try with_reducible refine mkQI ?_); (repeat ((first | (with_reducible refine mkQU ?_) | simp only [brGen]); try simp (maxSteps := 2000000) only [↓ S2, S2, vIte, ↓reduceIte, Int.reduceNe, Nat.reduceEqDiff, reduceCtorEq, Nat.reduceLeDiff, Nat.reduceAdd, Nat.reduceLT])); (try simp +contextual (disch := omega) only [Z2]); (repeat' (first | (with_reducible intro h) | (with_reducible refine And.intro (by omega) ?_) | (with_reducible refine exP (by omega) ?_) | (with_reducible apply And.intro))))
  refine callS.of (o10 g hs _) ?_
  rintro v H' ⟨rs, rr, hrr, rfl, rfl⟩ -
  ((try with_reducible refine mkQI ?_); (repeat ((first | (with_reducible refine mkQU ?_) | simp only [brGen]); try simp (maxSteps := 4000000) +contextual only [↓ S2, S2, vIte, ↓reduceIte, Int.reduceNe, Nat.reduceEqDiff, reduceCtorEq, Nat.reduceLeDiff, Nat.reduceAdd, Nat.reduceLT, hget_c, hset_c, hdel_c, neN, neA_cons, neA_nil, hrr])); (try simp +contextual (disch := omega) only [Z2, hrr]); (repeat' (first | (with_reducible intro h) | (with_reducible refine And.intro (by omega) ?_) | (with_reducible refine exP (by omega) ?_) | (with_reducible apply And.intro))))
  refine callS.of (o11 t hb.1 hb.2 _) ?_
  rintro v H' ⟨rt, rfl, rfl⟩ hn
  replace hn := neH_of hn
  (replace hn := hn; simp only [neH_cons, neH_nil, neA_cons, neA_nil, and_true, true_and] at hn)
  ((try with_reducible refine mkQI ?_); (repeat ((first | (with_reducible refine mkQU ?_) | simp only [brGen]); try simp (maxSteps := 4000000) +contextual only [↓ S2, S2, vIte, ↓reduceIte, Int.reduceNe, Nat.reduceEqDiff, reduceCtorEq, Nat.reduceLeDiff, Nat.reduceAdd, Nat.reduceLT, hget_c, hset_c, hdel_c, neN, neA_cons, neA_nil, hn])); (try simp +contextual (disch := omega) only [Z2, hn]); (repeat' (first | (with_reducible intro h) | (with_reducible refine And.intro (by omega) ?_) | (with_reducible refine exP (by omega) ?_) | (with_reducible apply And.intro))))
  refine callS.lend q3 (.cons (bor_Gr (rs := rs) (rr := rr) (by simp [hget_c, hn]) (by simp [hget_c, hn]) rfl rfl) (.cons (bor_Tr hget_new rfl) .nil)) (by rintro v H1 ⟨r, rfl, rfl⟩; simp [noD, noDL, noDH, noDL_eq]) ?_
  rintro v H1 ⟨rg, rfl, rfl⟩ hng
  simp only [List.cons_append, List.nil_append] at hng ⊢
  replace hng := neH_of hng
  (replace hng := hng; simp only [neH_cons, neH_nil, neA_cons, neA_nil, and_true, true_and] at hng)
  ((try with_reducible refine mkQI ?_); (repeat ((first | (with_reducible refine mkQU ?_) | simp only [brGen]); try simp (maxSteps := 4000000) +contextual only [↓ S2, S2, vIte, ↓reduceIte, Int.reduceNe, Nat.reduceEqDiff, reduceCtorEq, Nat.reduceLeDiff, Nat.reduceAdd, Nat.reduceLT, hget_c, hset_c, hdel_c, neN, neA_cons, neA_nil, hng])); (try simp +contextual (disch := omega) only [Z2, hng]); (repeat' (first | (with_reducible intro h) | (with_reducible refine And.intro (by omega) ?_) | (with_reducible refine exP (by omega) ?_) | (with_reducible apply And.intro))))
  refine callS.borA (w13 L L) (.cons (bor_IS hget_new rfl) (.cons .refl .nil)) rfl ?_
  ((try with_reducible refine mkQI ?_); (repeat ((first | (with_reducible refine mkQU ?_) | simp only [brGen]); try simp (maxSteps := 4000000) +contextual only [↓ S2, S2, vIte, ↓reduceIte, Int.reduceNe, Nat.reduceEqDiff, reduceCtorEq, Nat.reduceLeDiff, Nat.reduceAdd, Nat.reduceLT, hget_c, hset_c, hdel_c, neN, neA_cons, neA_nil, hng])); (try simp +contextual (disch := omega) only [Z2, hng]); (repeat' (first | (with_reducible intro h) | (with_reducible refine And.intro (by omega) ?_) | (with_reducible refine exP (by omega) ?_) | (with_reducible apply And.intro))))
  refine callS.eq (w10 g hs) ?_
  ((try with_reducible refine mkQI ?_); (repeat ((first | (with_reducible refine mkQU ?_) | simp only [brGen]); try simp (maxSteps := 4000000) +contextual only [↓ S2, S2, vIte, ↓reduceIte, Int.reduceNe, Nat.reduceEqDiff, reduceCtorEq, Nat.reduceLeDiff, Nat.reduceAdd, Nat.reduceLT, hget_c, hset_c, hdel_c, neN, neA_cons, neA_nil, hng])); (try simp +contextual (disch := omega) only [Z2, hng]); (repeat' (first | (with_reducible intro h) | (with_reducible refine And.intro (by omega) ?_) | (with_reducible refine exP (by omega) ?_) | (with_reducible apply And.intro))))
  refine callS.borA (w14 g g) (.cons (bor_Gr (rs := rs) (rr := rr) (by simp [hget_c, hng]) (by simp [hget_c, hng]) rfl rfl) (.cons .refl .nil)) rfl ?_
  ((try with_reducible refine mkQI ?_); (repeat ((first | (with_reducible refine mkQU ?_) | simp only [brGen]); try simp (maxSteps := 4000000) +contextual only [↓ S2, S2, vIte, ↓reduceIte, Int.reduceNe, Nat.reduceEqDiff, reduceCtorEq, Nat.reduceLeDiff, Nat.reduceAdd, Nat.reduceLT, hget_c, hset_c, hdel_c, neN, neA_cons, neA_nil, hng])); (try simp +contextual (disch := omega) only [Z2, hng]); (repeat' (first | (with_reducible intro h) | (with_reducible refine And.intro (by omega) ?_) | (with_reducible refine exP (by omega) ?_) | (with_reducible apply And.intro))))
  refine callS.eq (w11 t hb.1 hb.2) ?_
  ((try with_reducible refine mkQI ?_); (repeat ((first | (with_reducible refine mkQU ?_) | simp only [brGen]); try simp (maxSteps := 4000000) +contextual only [↓ S2, S2, vIte, ↓reduceIte, Int.reduceNe, Nat.reduceEqDiff, reduceCtorEq, Nat.reduceLeDiff, Nat.reduceAdd, Nat.reduceLT, hget_c, hset_c, hdel_c, neN, neA_cons, neA_nil, hng])); (try simp +contextual (disch := omega) only [Z2, hng]); (repeat' (first | (with_reducible intro h) | (with_reducible refine And.intro (by omega) ?_) | (with_reducible refine exP (by omega) ?_) | (with_reducible apply And.intro))))
  refine callS.borA (w15 t t) (.cons (bor_Tr (by simp [hget_c, hng]) rfl) (.cons .refl .nil)) rfl ?_
  ((try with_reducible refine mkQI ?_); (repeat ((first | (with_reducible refine mkQU ?_) | simp only [brGen]); try simp (maxSteps := 4000000) +contextual only [↓ S2, S2, vIte, ↓reduceIte, Int.reduceNe, Nat.reduceEqDiff, reduceCtorEq, Nat.reduceLeDiff, Nat.reduceAdd, Nat.reduceLT, hget_c, hset_c, hdel_c, neN, neA_cons, neA_nil, hng])); (try simp +contextual (disch := omega) only [Z2, hng]); (repeat' (first | (with_reducible intro h) | (with_reducible refine And.intro (by omega) ?_) | (with_reducible refine exP (by omega) ?_) | (with_reducible apply And.intro))))
  refine callS.of (w16 rs rr g.syms.length g.rules.length 1 g _ (by simp [hng]) (by simp [hget_c, hng]) (by simp [hget_c, hng]) rfl rfl (by omega) (by omega)) ?_
  rintro v H' ⟨rfl, rfl⟩ -
  ((try with_reducible refine mkQI ?_); (repeat ((first | (with_reducible refine mkQU ?_) | simp only [brGen]); try simp (maxSteps := 4000000) +contextual only [↓ S2, S2, vIte, ↓reduceIte, Int.reduceNe, Nat.reduceEqDiff, reduceCtorEq, Nat.reduceLeDiff, Nat.reduceAdd, Nat.reduceLT, hget_c, hset_c, hdel_c, neN, neA_cons, neA_nil, hng])); (try simp +contextual (disch := omega) only [Z2, hng]); (repeat' (first | (with_reducible intro h) | (with_reducible refine And.intro (by omega) ?_) | (with_reducible refine exP (by omega) ?_) | (with_reducible apply And.intro))))
  refine callS.of (w17 rt t.length _ t _ (by simp [hget_c, hng]) rfl (by omega) (by have := mkEnd_from (1 + smw wSym g.syms + smw wR g.rules) t; omega)) ?_
  rintro v H' ⟨rfl, rfl⟩ -
  have hmf := mkEnd_from (1 + smw wSym g.syms + smw wR g.rules) t
  have hmk : ¬ (mkEnd (1 + smw wSym g.syms + smw wR g.rules) t < 0) := by omega
  ((try with_reducible refine mkQI ?_); (repeat ((first | (with_reducible refine mkQU ?_) | simp only [brGen]); try simp (maxSteps := 4000000) +contextual only [↓ S2, S2, vIte, ↓reduceIte, Int.reduceNe, Nat.reduceEqDiff, reduceCtorEq, Nat.reduceLeDiff, Nat.reduceAdd, Nat.reduceLT, hget_c, hset_c, hdel_c, neN, neA_cons, neA_nil, hng, hmk])); (try simp +contextual (disch := omega) only [Z2, hng, hmk]); (repeat' (first | (with_reducible intro h) | (with_reducible refine And.intro (by omega) ?_) | (with_reducible refine exP (by omega) ?_) | (with_reducible apply And.intro))))
  refine callS.borA (w13 L L) (.cons (bor_IS hget_new rfl) (.cons .refl .nil)) rfl ?_
  ((try with_reducible refine mkQI ?_); (repeat ((first | (with_reducible refine mkQU ?_) | simp only [brGen]); try simp (maxSteps := 4000000) +contextual only [↓ S2, S2, vIte, ↓reduceIte, Int.reduceNe, Nat.reduceEqDiff, reduceCtorEq, Nat.reduceLeDiff, Nat.reduceAdd, Nat.reduceLT, hget_c, hset_c, hdel_c, neN, neA_cons, neA_nil, hng])); (try simp +contextual (disch := omega) only [Z2, hng]); (repeat' (first | (with_reducible intro h) | (with_reducible refine And.intro (by omega) ?_) | (with_reducible refine exP (by omega) ?_) | (with_reducible apply And.intro))))
  refine callS.of (w18 rg L.length 1 L _ hget_new rfl (by omega) (by omega)) ?_
  rintro v H' ⟨rfl, rfl⟩ -
  rw [hset_new]
  ((try with_reducible refine mkQI ?_); (repeat ((first | (with_reducible refine mkQU ?_) | simp only [brGen]); try simp (maxSteps := 4000000) +contextual only [↓ S2, S2, vIte, ↓reduceIte, Int.reduceNe, Nat.reduceEqDiff, reduceCtorEq, Nat.reduceLeDiff, Nat.reduceAdd, Nat.reduceLT, hget_c, hset_c, hdel_c, neN, neA_cons, neA_nil, hng])); (try simp +contextual (disch := omega) only [Z2, hng]); (repeat' (first | (with_reducible intro h) | (with_reducible refine And.intro (by omega) ?_) | (with_reducible refine exP (by omega) ?_) | (with_reducible apply And.intro))))
  refine callS.borA (w19 L.length 1 (by omega) (by omega)) (.cons (bor_IS hget_new (upFrom_len _ _)) (.cons .refl .nil)) rfl ?_
  have hmq : ¬ ((1 : Int) + L.length < 0) := by omega
  ((try with_reducible refine mkQI ?_); (repeat ((first | (with_reducible refine mkQU ?_) | simp only [brGen]); try simp (maxSteps := 4000000) +contextual only [↓ S2, S2, vIte, ↓reduceIte, Int.reduceNe, Nat.reduceEqDiff, reduceCtorEq, Nat.reduceLeDiff, Nat.reduceAdd, Nat.reduceLT, hget_c, hset_c, hdel_c, neN, neA_cons, neA_nil, hng, hmq])); (try simp +contextual (disch := omega) only [Z2, hng, hmq]); (repeat' (first | (with_reducible intro h) | (with_reducible refine And.intro (by omega) ?_) | (with_reducible refine exP (by omega) ?_) | (with_reducible apply And.intro))))
  refine callS.eq (w10 g hs) ?_
  ((try with_reducible refine mkQI ?_); (repeat ((first | (with_reducible refine mkQU ?_) | simp only [brGen]); try simp (maxSteps := 4000000) +contextual only [↓ S2, S2, vIte, ↓reduceIte, Int.reduceNe, Nat.reduceEqDiff, reduceCtorEq, Nat.reduceLeDiff, Nat.reduceAdd, Nat.reduceLT, hget_c, hset_c, hdel_c, neN, neA_cons, neA_nil, hng])); (try simp +contextual (disch := omega) only [Z2, hng]); (repeat' (first | (with_reducible intro h) | (with_reducible refine And.intro (by omega) ?_) | (with_reducible refine exP (by omega) ?_) | (with_reducible apply And.intro))))
  refine callS.eq (w11 t hb.1 hb.2) ?_
  ((try with_reducible refine mkQI ?_); (repeat ((first | (with_reducible refine mkQU ?_) | simp only [brGen]); try simp (maxSteps := 4000000) +contextual only [↓ S2, S2, vIte, ↓reduceIte, Int.reduceNe, Nat.reduceEqDiff, reduceCtorEq, Nat.reduceLeDiff, Nat.reduceAdd, Nat.reduceLT, hget_c, hset_c, hdel_c, neN, neA_cons, neA_nil, hng])); (try simp +contextual (disch := omega) only [Z2, hng]); (repeat' (first | (with_reducible intro h) | (with_reducible refine And.intro (by omega) ?_) | (with_reducible refine exP (by omega) ?_) | (with_reducible apply And.intro))))
  refine callS.eq q2 ?_
  ((try with_reducible refine mkQI ?_); (repeat ((first | (with_reducible refine mkQU ?_) | simp only [brGen]); try simp (maxSteps := 4000000) +contextual only [↓ S2, S2, vIte, ↓reduceIte, Int.reduceNe, Nat.reduceEqDiff, reduceCtorEq, Nat.reduceLeDiff, Nat.reduceAdd, Nat.reduceLT, hget_c, hset_c, hdel_c, neN, neA_cons, neA_nil, hng])); (try simp +contextual (disch := omega) only [Z2, hng]); (repeat' (first | (with_reducible intro h) | (with_reducible refine And.intro (by omega) ?_) | (with_reducible refine exP (by omega) ?_) | (with_reducible apply And.intro))))
  refine callS.eq (w13 L L) ?_
  ((try with_reducible refine mkQI ?_); (repeat ((first | (with_reducible refine mkQU ?_) | simp only [brGen]); try simp (maxSteps := 4000000) +contextual only [↓ S2, S2, vIte, ↓reduceIte, Int.reduceNe, Nat.reduceEqDiff, reduceCtorEq, Nat.reduceLeDiff, Nat.reduceAdd, Nat.reduceLT, hget_c, hset_c, hdel_c, neN, neA_cons, neA_nil, hng])); (try simp +contextual (disch := omega) only [Z2, hng]); (repeat' (first | (with_reducible intro h) | (with_reducible refine And.intro (by omega) ?_) | (with_reducible refine exP (by omega) ?_) | (with_reducible apply And.intro))))
  refine callS.borA (w19 L.length 1 (by omega) (by omega)) (.cons (bor_IS hget_new (upFrom_len _ _)) (.cons .refl .nil)) rfl ?_
  ((try with_reducible refine mkQI ?_); (repeat ((first | (with_reducible refine mkQU ?_) | simp only [brGen]); try simp (maxSteps := 4000000) +contextual only [↓ S2, S2, vIte, ↓reduceIte, Int.reduceNe, Nat.reduceEqDiff, reduceCtorEq, Nat.reduceLeDiff, Nat.reduceAdd, Nat.reduceLT, hget_c, hset_c, hdel_c, neN, neA_cons, neA_nil, hng, hmq])); (try simp +contextual (disch := omega) only [Z2, hng, hmq]); (repeat' (first | (with_reducible intro h) | (with_reducible refine And.intro (by omega) ?_) | (with_reducible refine exP (by omega) ?_) | (with_reducible apply And.intro))))
end Go.Proofs.YtbdmpkidcpblaaaGreat

