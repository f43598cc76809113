/- The law FnExactDependsOn returns true whatever the input, and the input reads behind the call as before. No condition. -/
import Derived.Test.YtkepdhkomchlgaaGreatCdo5
namespace Go.Proofs.YtkepdhkomchlgaaGreat
open Go.Gh
set_option maxRecDepth 20000
set_option linter.unusedSimpArgs false
set_option linter.unusedVariables false
end Go.Proofs.YtkepdhkomchlgaaGreat

namespace Go.Proofs.YtkepdhkomchlgaaGreat
open Go.Gh
set_option maxRecDepth 20000
set_option linter.unusedSimpArgs false
set_option linter.unusedVariables false
theorem o245 (x : Con) (hx : smCo x) (H : GH) : GCalls Tryz.prog 245 [Co x] H (fun g H' => ∃ gs Rs, (∃ r1 r2, gs = [T x.sym, T x.name, I x.goal.kind, I x.goal.n, I x.goal.pos, I x.goal.type, T x.goal.sym, T x.goal.name, .own r1 7 0 x.goal.args.length, I x.value.kind, I x.value.n, I x.value.pos, I x.value.type, T x.value.sym, T x.value.name, .own r2 7 0 x.value.args.length] ∧ Rs = [(r2, 7, x.value.args.map ExO), (r1, 7, x.goal.args.map ExO)]) ∧ g = .agg gs ∧ H' = Rs ++ H) := by
  have h0 : GCalls Tryz.prog 245 [Co x] H (fun g H' => ∃ r1 r2 r0 e, ¬ r1 = r0 ∧ ¬ r2 = r0 ∧ ¬ r2 = r1 ∧ g = .agg [T x.sym, T x.name, I x.goal.kind, I x.goal.n, I x.goal.pos, I x.goal.type, T x.goal.sym, T x.goal.name, .own r1 7 0 x.goal.args.length, I x.value.kind, I x.value.n, I x.value.pos, I x.value.type, T x.value.sym, T x.value.name, .own r2 7 0 x.value.args.length] ∧ H' = (r2, 7, x.value.args.map ExO) :: (r1, 7, x.goal.args.map ExO) :: (r0, 16, e) :: H) := by
    refine gstart mxd i245 rfl (by simp) ?_; simp (maxSteps := 2000000) only [↓ S2, S2, vIte, ↓reduceIte, Int.reduceNe, Nat.reduceEqDiff, reduceCtorEq, Nat.reduceLeDiff, Nat.reduceAdd, Nat.reduceLT]
    ((try with_reducible refine mkQI ?_); (repeat ((first | (with_reducible refine mkQU ?_) | simp only [brGen]); try simp (maxSteps := 4000000) +contextual only [↓ S2, S2, vIte, ↓reduceIte, Int.reduceNe, Nat.reduceEqDiff, reduceCtorEq, Nat.reduceLeDiff, Nat.reduceAdd, Nat.reduceLT, hget_c, hset_c, hdel_c, neN, neA_cons, neA_nil, XE])); (try simp +contextual (disch := omega) only [Z2, XE]); (repeat' (first | (with_reducible intro h) | (with_reducible refine And.intro (by omega) ?_) | (with_reducible refine exP (by omega) ?_) | (with_reducible apply And.intro))))
    rename_i r0
    refine callS.of (o294 x.goal hx.1 _) ?_
    rintro g H' ⟨r1, rfl, rfl⟩ hn
    replace hn := neH_of hn
    (replace hn := hn; simp only [neH_cons, neH_nil, neA_cons, neA_nil, and_true, true_and] at hn)
    ((try with_reducible refine mkQI ?_); (repeat ((first | (with_reducible refine mkQU ?_) | simp only [brGen]); try simp (maxSteps := 4000000) +contextual only [↓ S2, S2, vIte, ↓reduceIte, Int.reduceNe, Nat.reduceEqDiff, reduceCtorEq, Nat.reduceLeDiff, Nat.reduceAdd, Nat.reduceLT, hget_c, hset_c, hdel_c, neN, neA_cons, neA_nil, hn, XE])); (try simp +contextual (disch := omega) only [Z2, hn, XE]); (repeat' (first | (with_reducible intro h) | (with_reducible refine And.intro (by omega) ?_) | (with_reducible refine exP (by omega) ?_) | (with_reducible apply And.intro))))
    refine callS.of (o294 x.value hx.2 _) ?_
    rintro g H' ⟨r2, rfl, rfl⟩ hn2
    replace hn2 := neH_of hn2
    (replace hn2 := hn2; simp only [neH_cons, neH_nil, neA_cons, neA_nil, and_true, true_and] at hn2)
    ((try with_reducible refine mkQI ?_); (repeat ((first | (with_reducible refine mkQU ?_) | simp only [brGen]); try simp (maxSteps := 4000000) +contextual only [↓ S2, S2, vIte, ↓reduceIte, Int.reduceNe, Nat.reduceEqDiff, reduceCtorEq, Nat.reduceLeDiff, Nat.reduceAdd, Nat.reduceLT, hget_c, hset_c, hdel_c, neN, neA_cons, neA_nil, hn2, XE])); (try simp +contextual (disch := omega) only [Z2, hn2, XE]); (repeat' (first | (with_reducible intro h) | (with_reducible refine And.intro (by omega) ?_) | (with_reducible refine exP (by omega) ?_) | (with_reducible apply And.intro))))
    exact ⟨r1, r2, r0, _, by simp [hn2], by simp [hn2], by simp [hn2], rfl, rfl⟩
  refine h0.fr ?_
  rintro g H' ⟨r1, r2, r0, e, n1, n2, n3, rfl, rfl⟩
  exact ⟨_, _, FR.perm (H := [_, _, _]) (L := [(r2, 7, x.value.args.map ExO), (r1, 7, x.goal.args.map ExO)]) (by simp [subH, hget, names, *]), _, _, ⟨r1, r2, rfl, rfl⟩, rfl, rfl⟩
theorem o182 (xs : List Con) (hl : xs.length ≤ 1048576) (hx : ∀ x ∈ xs, smCo x) (H : GH) : GCalls Tryz.prog 182 [CoS xs] H (fun g H' => ∃ r, g = .own r 16 0 xs.length ∧ H' = (r, 16, xs.map CoO) :: H) :=
  toSoN mxd i182 (fun _ => rfl) (fun _ => rfl)
    (fun x gs Rs => ∃ r1 r2, gs = [T x.sym, T x.name, I x.goal.kind, I x.goal.n, I x.goal.pos, I x.goal.type, T x.goal.sym, T x.goal.name, .own r1 7 0 x.goal.args.length, I x.value.kind, I x.value.n, I x.value.pos, I x.value.type, T x.value.sym, T x.value.name, .own r2 7 0 x.value.args.length] ∧ Rs = [(r2, 7, x.value.args.map ExO), (r1, 7, x.goal.args.map ExO)])
    (fun x => [T x.sym, T x.name, I x.goal.kind, I x.goal.n, I x.goal.pos, I x.goal.type, T x.goal.sym, T x.goal.name, .osl 7 (x.goal.args.map ExO), I x.value.kind, I x.value.n, I x.value.pos, I x.value.type, T x.value.sym, T x.value.name, .osl 7 (x.value.args.map ExO)])
    (by rintro x gs Rs ⟨r1, r2, rfl, rfl⟩; rfl)
    (by
      rintro x gs Rs ⟨r1, r2, rfl, rfl⟩ env r L i H hn hi
      replace hn := neH_of hn
      simp only [List.cons_append, List.nil_append] at hn ⊢
      (replace hn := hn; simp only [neH_cons, neH_nil, neA_cons, neA_nil, and_true, true_and] at hn)
      have h1 := FE.closeT (env := env) (T := (r1, 7, x.goal.args.map ExO) :: (r, 16, L.set i (.agg [T x.sym, T x.name, I x.goal.kind, I x.goal.n, I x.goal.pos, I x.goal.type, T x.goal.sym, T x.goal.name, .own r1 7 0 x.goal.args.length, I x.value.kind, I x.value.n, I x.value.pos, I x.value.type, T x.value.sym, T x.value.name, .own r2 7 0 x.value.args.length])) :: H) (r := r) (r2 := r2) (j := 15) (ks := x.value.args.map ExO) (i := i) (by simp [hn]) (by simp only [hget_c, hn, if_true, if_false]; rfl) hi rfl (by simp)
      simp only [hset_c, hn, if_true, if_false] at h1
      refine FE.trans h1 ?_
      have h2 := FE.close2 (env := env) (H := H) (r := r) (r1 := r1) (j := 8) (i := i) (L := L) (sz := 16) (sz1 := 7) (ks := x.goal.args.map ExO) (gs := [T x.sym, T x.name, I x.goal.kind, I x.goal.n, I x.goal.pos, I x.goal.type, T x.goal.sym, T x.goal.name, .own r1 7 0 x.goal.args.length, I x.value.kind, I x.value.n, I x.value.pos, I x.value.type, T x.value.sym, T x.value.name, .osl 7 (x.value.args.map ExO)]) (by simp [hn]) hi rfl (by simp)
      exact h2)
    xs hl (by decide) (fun x hm H => o245 x (hx x hm) H) H
theorem o105 (x : Rul) (hx : smRu x) (H : GH) : GCalls Tryz.prog 105 [Ru x] H (fun g H' => ∃ gs Rs, (∃ r1 r2 r3, gs = [T x.name, T x.left, .own r1 1 0 x.right.length, B x.lit, .own r2 9 0 x.eqs.length, .own r3 16 0 x.cons.length] ∧ Rs = [(r3, 16, x.cons.map CoO), (r2, 9, x.eqs.map QnO), (r1, 1, x.right.map T)]) ∧ g = .agg gs ∧ H' = Rs ++ H) := by
  have h0 : GCalls Tryz.prog 105 [Ru x] H (fun g H' => ∃ r1 r2 r3 r0 e, ¬ r1 = r0 ∧ ¬ r2 = r0 ∧ ¬ r2 = r1 ∧ ¬ r3 = r0 ∧ ¬ r3 = r1 ∧ ¬ r3 = r2 ∧ g = .agg [T x.name, T x.left, .own r1 1 0 x.right.length, B x.lit, .own r2 9 0 x.eqs.length, .own r3 16 0 x.cons.length] ∧ H' = (r3, 16, x.cons.map CoO) :: (r2, 9, x.eqs.map QnO) :: (r1, 1, x.right.map T) :: (r0, 6, e) :: H) := by
    refine gstart mxd i105 rfl (by simp) ?_; simp (maxSteps := 2000000) only [↓ S2, S2, vIte, ↓reduceIte, Int.reduceNe, Nat.reduceEqDiff, reduceCtorEq, Nat.reduceLeDiff, Nat.reduceAdd, Nat.reduceLT]
    ((try with_reducible refine mkQI ?_); (repeat ((first | (with_reducible refine mkQU ?_) | simp only [brGen]); try simp (maxSteps := 4000000) +contextual only [↓ S2, S2, vIte, ↓reduceIte, Int.reduceNe, Nat.reduceEqDiff, reduceCtorEq, Nat.reduceLeDiff, Nat.reduceAdd, Nat.reduceLT, hget_c, hset_c, hdel_c, neN, neA_cons, neA_nil, ])); (try simp +contextual (disch := omega) only [Z2, ]); (repeat' (first | (with_reducible intro h) | (with_reducible refine And.intro (by omega) ?_) | (with_reducible refine exP (by omega) ?_) | (with_reducible apply And.intro))))
    rename_i r0
    refine callS.of (o180 x.right hx.1 _) ?_
    rintro g H' ⟨r1, rfl, rfl⟩ hn
    replace hn := neH_of hn
    (replace hn := hn; simp only [neH_cons, neH_nil, neA_cons, neA_nil, and_true, true_and] at hn)
    ((try with_reducible refine mkQI ?_); (repeat ((first | (with_reducible refine mkQU ?_) | simp only [brGen]); try simp (maxSteps := 4000000) +contextual only [↓ S2, S2, vIte, ↓reduceIte, Int.reduceNe, Nat.reduceEqDiff, reduceCtorEq, Nat.reduceLeDiff, Nat.reduceAdd, Nat.reduceLT, hget_c, hset_c, hdel_c, neN, neA_cons, neA_nil, hn])); (try simp +contextual (disch := omega) only [Z2, hn]); (repeat' (first | (with_reducible intro h) | (with_reducible refine And.intro (by omega) ?_) | (with_reducible refine exP (by omega) ?_) | (with_reducible apply And.intro))))
    refine callS.of (o181 x.eqs hx.2.1 hx.2.2.2.1 _) ?_
    rintro g H' ⟨r2, rfl, rfl⟩ hn2
    replace hn2 := neH_of hn2
    (replace hn2 := hn2; simp only [neH_cons, neH_nil, neA_cons, neA_nil, and_true, true_and] at hn2)
    ((try with_reducible refine mkQI ?_); (repeat ((first | (with_reducible refine mkQU ?_) | simp only [brGen]); try simp (maxSteps := 4000000) +contextual only [↓ S2, S2, vIte, ↓reduceIte, Int.reduceNe, Nat.reduceEqDiff, reduceCtorEq, Nat.reduceLeDiff, Nat.reduceAdd, Nat.reduceLT, hget_c, hset_c, hdel_c, neN, neA_cons, neA_nil, hn2])); (try simp +contextual (disch := omega) only [Z2, hn2]); (repeat' (first | (with_reducible intro h) | (with_reducible refine And.intro (by omega) ?_) | (with_reducible refine exP (by omega) ?_) | (with_reducible apply And.intro))))
    refine callS.of (o182 x.cons hx.2.2.1 hx.2.2.2.2 _) ?_
    rintro g H' ⟨r3, rfl, rfl⟩ hn3
    replace hn3 := neH_of hn3
    (replace hn3 := hn3; simp only [neH_cons, neH_nil, neA_cons, neA_nil, and_true, true_and] at hn3)
    ((try with_reducible refine mkQI ?_); (repeat ((first | (with_reducible refine mkQU ?_) | simp only [brGen]); try simp (maxSteps := 4000000) +contextual only [↓ S2, S2, vIte, ↓reduceIte, Int.reduceNe, Nat.reduceEqDiff, reduceCtorEq, Nat.reduceLeDiff, Nat.reduceAdd, Nat.reduceLT, hget_c, hset_c, hdel_c, neN, neA_cons, neA_nil, hn3])); (try simp +contextual (disch := omega) only [Z2, hn3]); (repeat' (first | (with_reducible intro h) | (with_reducible refine And.intro (by omega) ?_) | (with_reducible refine exP (by omega) ?_) | (with_reducible apply And.intro))))
    exact ⟨r1, r2, r3, r0, _, by simp [hn3], by simp [hn3], by simp [hn3], by simp [hn3], by simp [hn3], by simp [hn3], rfl, rfl⟩
  refine h0.fr ?_
  rintro g H' ⟨r1, r2, r3, r0, e, n1, n2, n3, n4, n5, n6, rfl, rfl⟩
  exact ⟨_, _, FR.perm (H := [_, _, _, _]) (L := [(r3, 16, x.cons.map CoO), (r2, 9, x.eqs.map QnO), (r1, 1, x.right.map T)]) (by simp [subH, hget, names, *]), _, _, ⟨r1, r2, r3, rfl, rfl⟩, rfl, rfl⟩
theorem o54 (xs : List Rul) (hl : xs.length ≤ 1048576) (hx : ∀ x ∈ xs, smRu x) (H : GH) : GCalls Tryz.prog 54 [RuS xs] H (fun g H' => ∃ r, g = .own r 6 0 xs.length ∧ H' = (r, 6, xs.map RuO) :: H) :=
  toSoN mxd i54 (fun _ => rfl) (fun _ => rfl)
    (fun x gs Rs => ∃ r1 r2 r3, gs = [T x.name, T x.left, .own r1 1 0 x.right.length, B x.lit, .own r2 9 0 x.eqs.length, .own r3 16 0 x.cons.length] ∧ Rs = [(r3, 16, x.cons.map CoO), (r2, 9, x.eqs.map QnO), (r1, 1, x.right.map T)])
    (fun x => [T x.name, T x.left, .osl 1 (x.right.map T), B x.lit, .osl 9 (x.eqs.map QnO), .osl 16 (x.cons.map CoO)])
    (by rintro x gs Rs ⟨r1, r2, r3, rfl, rfl⟩; rfl)
    (by
      rintro x gs Rs ⟨r1, r2, r3, rfl, rfl⟩ env r L i H hn hi
      replace hn := neH_of hn
      simp only [List.cons_append, List.nil_append] at hn ⊢
      (replace hn := hn; simp only [neH_cons, neH_nil, neA_cons, neA_nil, and_true, true_and] at hn)
      have h1 := FE.closeT (env := env) (T := (r2, 9, x.eqs.map QnO) :: (r1, 1, x.right.map T) :: (r, 6, L.set i (.agg [T x.name, T x.left, .own r1 1 0 x.right.length, B x.lit, .own r2 9 0 x.eqs.length, .own r3 16 0 x.cons.length])) :: H) (r := r) (r2 := r3) (j := 5) (ks := x.cons.map CoO) (i := i) (by simp [hn]) (by simp only [hget_c, hn, if_true, if_false]; rfl) hi rfl (by simp)
      simp only [hset_c, hn, if_true, if_false] at h1
      refine FE.trans h1 ?_
      have h2 := FE.closeT (env := env) (T := (r1, 1, x.right.map T) :: (r, 6, L.set i (.agg [T x.name, T x.left, .own r1 1 0 x.right.length, B x.lit, .own r2 9 0 x.eqs.length, .osl 16 (x.cons.map CoO)])) :: H) (r := r) (r2 := r2) (j := 4) (ks := x.eqs.map QnO) (i := i) (by simp [hn]) (by simp only [hget_c, hn, if_true, if_false]; rfl) hi rfl (by simp)
      simp only [hset_c, hn, if_true, if_false] at h2
      refine FE.trans h2 ?_
      have h3 := FE.close2 (env := env) (H := H) (r := r) (r1 := r1) (j := 2) (i := i) (L := L) (sz := 6) (sz1 := 1) (ks := x.right.map T) (gs := [T x.name, T x.left, .own r1 1 0 x.right.length, B x.lit, .osl 9 (x.eqs.map QnO), .osl 16 (x.cons.map CoO)]) (by simp [hn]) hi rfl (by simp)
      exact h3)
    xs hl (by decide) (fun x hm H => o105 x (hx x hm) H) H
theorem o15 (x : Gram) (hx : smGr x) (H : GH) : GCalls Tryz.prog 15 [Gr x] H (fun g H' => ∃ rs rr, ¬ rr = rs ∧ g = .agg [.own rs 2 0 x.syms.length, .own rr 6 0 x.rules.length] ∧ H' = (rr, 6, x.rules.map RuO) :: (rs, 2, x.syms.map SyO) :: H) := by
  have h0 : GCalls Tryz.prog 15 [Gr x] H (fun g H' => ∃ rs rr r0 e, ¬ rs = r0 ∧ ¬ rr = r0 ∧ ¬ rr = rs ∧ g = .agg [.own rs 2 0 x.syms.length, .own rr 6 0 x.rules.length] ∧ H' = (rr, 6, x.rules.map RuO) :: (rs, 2, x.syms.map SyO) :: (r0, 2, e) :: H) := by
    refine gstart mxd i15 rfl (by simp) ?_; simp (maxSteps := 2000000) only [↓ S2, S2, vIte, ↓reduceIte, Int.reduceNe, Nat.reduceEqDiff, reduceCtorEq, Nat.reduceLeDiff, Nat.reduceAdd, Nat.reduceLT]
    ((try with_reducible refine mkQI ?_); (repeat ((first | (with_reducible refine mkQU ?_) | simp only [brGen]); try simp (maxSteps := 4000000) +contextual only [↓ S2, S2, vIte, ↓reduceIte, Int.reduceNe, Nat.reduceEqDiff, reduceCtorEq, Nat.reduceLeDiff, Nat.reduceAdd, Nat.reduceLT, hget_c, hset_c, hdel_c, neN, neA_cons, neA_nil, ])); (try simp +contextual (disch := omega) only [Z2, ]); (repeat' (first | (with_reducible intro h) | (with_reducible refine And.intro (by omega) ?_) | (with_reducible refine exP (by omega) ?_) | (with_reducible apply And.intro))))
    rename_i r0
    refine callS.of (o53 x.syms hx.1 hx.2.2.1 _) ?_
    rintro g H' ⟨r1, rfl, rfl⟩ hn
    replace hn := neH_of hn
    (replace hn := hn; simp only [neH_cons, neH_nil, neA_cons, neA_nil, and_true, true_and] at hn)
    ((try with_reducible refine mkQI ?_); (repeat ((first | (with_reducible refine mkQU ?_) | simp only [brGen]); try simp (maxSteps := 4000000) +contextual only [↓ S2, S2, vIte, ↓reduceIte, Int.reduceNe, Nat.reduceEqDiff, reduceCtorEq, Nat.reduceLeDiff, Nat.reduceAdd, Nat.reduceLT, hget_c, hset_c, hdel_c, neN, neA_cons, neA_nil, hn])); (try simp +contextual (disch := omega) only [Z2, hn]); (repeat' (first | (with_reducible intro h) | (with_reducible refine And.intro (by omega) ?_) | (with_reducible refine exP (by omega) ?_) | (with_reducible apply And.intro))))
    refine callS.of (o54 x.rules hx.2.1 hx.2.2.2 _) ?_
    rintro g H' ⟨r2, rfl, rfl⟩ hn2
    replace hn2 := neH_of hn2
    (replace hn2 := hn2; simp only [neH_cons, neH_nil, neA_cons, neA_nil, and_true, true_and] at hn2)
    ((try with_reducible refine mkQI ?_); (repeat ((first | (with_reducible refine mkQU ?_) | simp only [brGen]); try simp (maxSteps := 4000000) +contextual only [↓ S2, S2, vIte, ↓reduceIte, Int.reduceNe, Nat.reduceEqDiff, reduceCtorEq, Nat.reduceLeDiff, Nat.reduceAdd, Nat.reduceLT, hget_c, hset_c, hdel_c, neN, neA_cons, neA_nil, hn2])); (try simp +contextual (disch := omega) only [Z2, hn2]); (repeat' (first | (with_reducible intro h) | (with_reducible refine And.intro (by omega) ?_) | (with_reducible refine exP (by omega) ?_) | (with_reducible apply And.intro))))
    exact ⟨r1, r2, r0, _, by simp [hn2], by simp [hn2], by simp [hn2], rfl, rfl⟩
  refine h0.fr ?_
  rintro g H' ⟨r1, r2, r0, e, n1, n2, n3, rfl, rfl⟩
  exact ⟨_, _, FR.perm (H := [_, _, _]) (L := [(r2, 6, x.rules.map RuO), (r1, 2, x.syms.map SyO)]) (by simp [subH, hget, names, *]), r1, r2, n3, rfl, rfl⟩
end Go.Proofs.YtkepdhkomchlgaaGreat

