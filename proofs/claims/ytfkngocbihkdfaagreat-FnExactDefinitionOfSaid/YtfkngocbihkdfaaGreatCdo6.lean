/- The law FnExactDefinitionOf returns true whatever the input, and the input reads behind the call as before. No condition. -/
import Derived.Test.YtfkngocbihkdfaaGreatCdo5
namespace Go.Proofs.YtfkngocbihkdfaaGreat
open Go.Gh
set_option maxRecDepth 20000
set_option linter.unusedSimpArgs false
set_option linter.unusedVariables false
theorem o256 (x : Con) (hx : smCo x) (H : GH) : GCalls Tryz.prog 256 [Co x] H (fun g H' => ∃ gs Rs, (∃ r1 r2, gs = [T x.sym, T x.name, I x.goal.kind, I x.goal.n, I x.goal.pos, I x.goal.type, T x.goal.sym, T x.goal.name, .own r1 7 0 x.goal.args.length, I x.value.kind, I x.value.n, I x.value.pos, I x.value.type, T x.value.sym, T x.value.name, .own r2 7 0 x.value.args.length] ∧ Rs = [(r2, 7, x.value.args.map ExO), (r1, 7, x.goal.args.map ExO)]) ∧ g = .agg gs ∧ H' = Rs ++ H) := by
  have h0 : GCalls Tryz.prog 256 [Co x] H (fun g H' => ∃ r1 r2 r0 e, ¬ r1 = r0 ∧ ¬ r2 = r0 ∧ ¬ r2 = r1 ∧ g = .agg [T x.sym, T x.name, I x.goal.kind, I x.goal.n, I x.goal.pos, I x.goal.type, T x.goal.sym, T x.goal.name, .own r1 7 0 x.goal.args.length, I x.value.kind, I x.value.n, I x.value.pos, I x.value.type, T x.value.sym, T x.value.name, .own r2 7 0 x.value.args.length] ∧ H' = (r2, 7, x.value.args.map ExO) :: (r1, 7, x.goal.args.map ExO) :: (r0, 16, e) :: H) := by
    refine gstart mxd i256 rfl (by simp) ?_; simp (maxSteps := 2000000) only [↓ S2, S2, vIte, ↓reduceIte, Int.reduceNe, Nat.reduceEqDiff, reduceCtorEq, Nat.reduceLeDiff, Nat.reduceAdd, Nat.reduceLT]
    ((try simp (maxSteps := 4000000) +contextual only [↓ S2, S2, vIte, ↓reduceIte, Int.reduceNe, Nat.reduceEqDiff, reduceCtorEq, Nat.reduceLeDiff, Nat.reduceAdd, Nat.reduceLT, hget_c, hset_c, hdel_c, neN, neA_cons, neA_nil, XE]); (repeat (simp only [brGen]; try simp (maxSteps := 4000000) +contextual only [↓ S2, S2, vIte, ↓reduceIte, Int.reduceNe, Nat.reduceEqDiff, reduceCtorEq, Nat.reduceLeDiff, Nat.reduceAdd, Nat.reduceLT, hget_c, hset_c, hdel_c, neN, neA_cons, neA_nil, XE])); (try simp +contextual (disch := omega) only [Z2]); (repeat' (first | (with_reducible intro h) | (with_reducible refine And.intro (by omega) ?_) | (with_reducible refine exP (by omega) ?_) | (with_reducible apply And.intro))))
    rename_i r0
    refine callS.of (o306 x.goal hx.1 _) ?_
    rintro g H' ⟨r1, rfl, rfl⟩ hn
    replace hn := neH_of hn
    (replace hn := hn; simp only [neH_cons, neH_nil, neA_cons, neA_nil, and_true, true_and] at hn)
    ((try simp (maxSteps := 4000000) +contextual only [↓ S2, S2, vIte, ↓reduceIte, Int.reduceNe, Nat.reduceEqDiff, reduceCtorEq, Nat.reduceLeDiff, Nat.reduceAdd, Nat.reduceLT, hget_c, hset_c, hdel_c, neN, neA_cons, neA_nil, hn, XE]); (repeat (simp only [brGen]; try simp (maxSteps := 4000000) +contextual only [↓ S2, S2, vIte, ↓reduceIte, Int.reduceNe, Nat.reduceEqDiff, reduceCtorEq, Nat.reduceLeDiff, Nat.reduceAdd, Nat.reduceLT, hget_c, hset_c, hdel_c, neN, neA_cons, neA_nil, hn, XE])); (try simp +contextual (disch := omega) only [Z2]); (repeat' (first | (with_reducible intro h) | (with_reducible refine And.intro (by omega) ?_) | (with_reducible refine exP (by omega) ?_) | (with_reducible apply And.intro))))
    refine callS.of (o306 x.value hx.2 _) ?_
    rintro g H' ⟨r2, rfl, rfl⟩ hn2
    replace hn2 := neH_of hn2
    (replace hn2 := hn2; simp only [neH_cons, neH_nil, neA_cons, neA_nil, and_true, true_and] at hn2)
    ((try simp (maxSteps := 4000000) +contextual only [↓ S2, S2, vIte, ↓reduceIte, Int.reduceNe, Nat.reduceEqDiff, reduceCtorEq, Nat.reduceLeDiff, Nat.reduceAdd, Nat.reduceLT, hget_c, hset_c, hdel_c, neN, neA_cons, neA_nil, hn2, XE]); (repeat (simp only [brGen]; try simp (maxSteps := 4000000) +contextual only [↓ S2, S2, vIte, ↓reduceIte, Int.reduceNe, Nat.reduceEqDiff, reduceCtorEq, Nat.reduceLeDiff, Nat.reduceAdd, Nat.reduceLT, hget_c, hset_c, hdel_c, neN, neA_cons, neA_nil, hn2, XE])); (try simp +contextual (disch := omega) only [Z2]); (repeat' (first | (with_reducible intro h) | (with_reducible refine And.intro (by omega) ?_) | (with_reducible refine exP (by omega) ?_) | (with_reducible apply And.intro))))
    exact ⟨r1, r2, r0, _, by simp [hn2], by simp [hn2], by simp [hn2], rfl, rfl⟩
  refine h0.fr ?_
  rintro g H' ⟨r1, r2, r0, e, n1, n2, n3, rfl, rfl⟩
  exact ⟨_, _, FR.perm (H := [_, _, _]) (L := [(r2, 7, x.value.args.map ExO), (r1, 7, x.goal.args.map ExO)]) (by simp [subH, hget, names, *]), _, _, ⟨r1, r2, rfl, rfl⟩, rfl, rfl⟩
theorem o199 (xs : List Con) (hl : xs.length ≤ 1048576) (hx : ∀ x ∈ xs, smCo x) (H : GH) : GCalls Tryz.prog 199 [CoS xs] H (fun g H' => ∃ r, g = .own r 16 0 xs.length ∧ H' = (r, 16, xs.map CoO) :: H) :=
  toSoN mxd i199 (fun _ => rfl) (fun _ => rfl)
    (fun x gs Rs => ∃ r1 r2, gs = [T x.sym, T x.name, I x.goal.kind, I x.goal.n, I x.goal.pos, I x.goal.type, T x.goal.sym, T x.goal.name, .own r1 7 0 x.goal.args.length, I x.value.kind, I x.value.n, I x.value.pos, I x.value.type, T x.value.sym, T x.value.name, .own r2 7 0 x.value.args.length] ∧ Rs = [(r2, 7, x.value.args.map ExO), (r1, 7, x.goal.args.map ExO)])
    (fun x => [T x.sym, T x.name, I x.goal.kind, I x.goal.n, I x.goal.pos, I x.goal.type, T x.goal.sym, T x.goal.name, .osl 7 (x.goal.args.map ExO), I x.value.kind, I x.value.n, I x.value.pos, I x.value.type, T x.value.sym, T x.value.name, .osl 7 (x.value.args.map ExO)])
    (by rintro x gs Rs ⟨r1, r2, rfl, rfl⟩; rfl)
    (by
      rintro x gs Rs ⟨r1, r2, rfl, rfl⟩ env r L i H hn hi
      replace hn := neH_of hn
      simp only [List.cons_append, List.nil_append] at hn ⊢
      (replace hn := hn; simp only [neH_cons, neH_nil, neA_cons, neA_nil, and_true, true_and] at hn)
      have h1 := FE.closeT (env := env) (T := (r1, 7, x.goal.args.map ExO) :: (r, 16, L.set i (.agg [T x.sym, T x.name, I x.goal.kind, I x.goal.n, I x.goal.pos, I x.goal.type, T x.goal.sym, T x.goal.name, .own r1 7 0 x.goal.args.length, I x.value.kind, I x.value.n, I x.value.pos, I x.value.type, T x.value.sym, T x.value.name, .own r2 7 0 x.value.args.length])) :: H) (r := r) (r2 := r2) (j := 15) (ks := x.value.args.map ExO) (i := i) (by simp [hn]) (by simp only [hget_c, hn, if_true, if_false]; rfl) hi rfl (by simp)
      simp only [hset_c, hn, if_true, if_false] at h1
      refine FE.trans h1 ?_
      have h2 := FE.close2 (env := env) (H := H) (r := r) (r1 := r1) (j := 8) (i := i) (L := L) (sz := 16) (sz1 := 7) (ks := x.goal.args.map ExO) (gs := [T x.sym, T x.name, I x.goal.kind, I x.goal.n, I x.goal.pos, I x.goal.type, T x.goal.sym, T x.goal.name, .own r1 7 0 x.goal.args.length, I x.value.kind, I x.value.n, I x.value.pos, I x.value.type, T x.value.sym, T x.value.name, .osl 7 (x.value.args.map ExO)]) (by simp [hn]) hi rfl (by simp)
      exact h2)
    xs hl (by decide) (fun x hm H => o256 x (hx x hm) H) H
theorem o124 (x : Rul) (hx : smRu x) (H : GH) : GCalls Tryz.prog 124 [Ru x] H (fun g H' => ∃ gs Rs, (∃ r1 r2 r3, gs = [T x.name, T x.left, .own r1 1 0 x.right.length, B x.lit, .own r2 9 0 x.eqs.length, .own r3 16 0 x.cons.length] ∧ Rs = [(r3, 16, x.cons.map CoO), (r2, 9, x.eqs.map QnO), (r1, 1, x.right.map T)]) ∧ g = .agg gs ∧ H' = Rs ++ H) := by
  have h0 : GCalls Tryz.prog 124 [Ru x] H (fun g H' => ∃ r1 r2 r3 r0 e, ¬ r1 = r0 ∧ ¬ r2 = r0 ∧ ¬ r2 = r1 ∧ ¬ r3 = r0 ∧ ¬ r3 = r1 ∧ ¬ r3 = r2 ∧ g = .agg [T x.name, T x.left, .own r1 1 0 x.right.length, B x.lit, .own r2 9 0 x.eqs.length, .own r3 16 0 x.cons.length] ∧ H' = (r3, 16, x.cons.map CoO) :: (r2, 9, x.eqs.map QnO) :: (r1, 1, x.right.map T) :: (r0, 6, e) :: H) := by
    refine gstart mxd i124 rfl (by simp) ?_; simp (maxSteps := 2000000) only [↓ S2, S2, vIte, ↓reduceIte, Int.reduceNe, Nat.reduceEqDiff, reduceCtorEq, Nat.reduceLeDiff, Nat.reduceAdd, Nat.reduceLT]
    ((try simp (maxSteps := 4000000) +contextual only [↓ S2, S2, vIte, ↓reduceIte, Int.reduceNe, Nat.reduceEqDiff, reduceCtorEq, Nat.reduceLeDiff, Nat.reduceAdd, Nat.reduceLT, hget_c, hset_c, hdel_c, neN, neA_cons, neA_nil, ]); (repeat (simp only [brGen]; try simp (maxSteps := 4000000) +contextual only [↓ S2, S2, vIte, ↓reduceIte, Int.reduceNe, Nat.reduceEqDiff, reduceCtorEq, Nat.reduceLeDiff, Nat.reduceAdd, Nat.reduceLT, hget_c, hset_c, hdel_c, neN, neA_cons, neA_nil, ])); (try simp +contextual (disch := omega) only [Z2]); (repeat' (first | (with_reducible intro h) | (with_reducible refine And.intro (by omega) ?_) | (with_reducible refine exP (by omega) ?_) | (with_reducible apply And.intro))))
    rename_i r0
    refine callS.of (o197 x.right hx.1 _) ?_
    rintro g H' ⟨r1, rfl, rfl⟩ hn
    replace hn := neH_of hn
    (replace hn := hn; simp only [neH_cons, neH_nil, neA_cons, neA_nil, and_true, true_and] at hn)
    ((try simp (maxSteps := 4000000) +contextual only [↓ S2, S2, vIte, ↓reduceIte, Int.reduceNe, Nat.reduceEqDiff, reduceCtorEq, Nat.reduceLeDiff, Nat.reduceAdd, Nat.reduceLT, hget_c, hset_c, hdel_c, neN, neA_cons, neA_nil, hn]); (repeat (simp only [brGen]; try simp (maxSteps := 4000000) +contextual only [↓ S2, S2, vIte, ↓reduceIte, Int.reduceNe, Nat.reduceEqDiff, reduceCtorEq, Nat.reduceLeDiff, Nat.reduceAdd, Nat.reduceLT, hget_c, hset_c, hdel_c, neN, neA_cons, neA_nil, hn])); (try simp +contextual (disch := omega) only [Z2]); (repeat' (first | (with_reducible intro h) | (with_reducible refine And.intro (by omega) ?_) | (with_reducible refine exP (by omega) ?_) | (with_reducible apply And.intro))))
    refine callS.of (o198 x.eqs hx.2.1 hx.2.2.2.1 _) ?_
    rintro g H' ⟨r2, rfl, rfl⟩ hn2
    replace hn2 := neH_of hn2
    (replace hn2 := hn2; simp only [neH_cons, neH_nil, neA_cons, neA_nil, and_true, true_and] at hn2)
    ((try simp (maxSteps := 4000000) +contextual only [↓ S2, S2, vIte, ↓reduceIte, Int.reduceNe, Nat.reduceEqDiff, reduceCtorEq, Nat.reduceLeDiff, Nat.reduceAdd, Nat.reduceLT, hget_c, hset_c, hdel_c, neN, neA_cons, neA_nil, hn2]); (repeat (simp only [brGen]; try simp (maxSteps := 4000000) +contextual only [↓ S2, S2, vIte, ↓reduceIte, Int.reduceNe, Nat.reduceEqDiff, reduceCtorEq, Nat.reduceLeDiff, Nat.reduceAdd, Nat.reduceLT, hget_c, hset_c, hdel_c, neN, neA_cons, neA_nil, hn2])); (try simp +contextual (disch := omega) only [Z2]); (repeat' (first | (with_reducible intro h) | (with_reducible refine And.intro (by omega) ?_) | (with_reducible refine exP (by omega) ?_) | (with_reducible apply And.intro))))
    refine callS.of (o199 x.cons hx.2.2.1 hx.2.2.2.2 _) ?_
    rintro g H' ⟨r3, rfl, rfl⟩ hn3
    replace hn3 := neH_of hn3
    (replace hn3 := hn3; simp only [neH_cons, neH_nil, neA_cons, neA_nil, and_true, true_and] at hn3)
    ((try simp (maxSteps := 4000000) +contextual only [↓ S2, S2, vIte, ↓reduceIte, Int.reduceNe, Nat.reduceEqDiff, reduceCtorEq, Nat.reduceLeDiff, Nat.reduceAdd, Nat.reduceLT, hget_c, hset_c, hdel_c, neN, neA_cons, neA_nil, hn3]); (repeat (simp only [brGen]; try simp (maxSteps := 4000000) +contextual only [↓ S2, S2, vIte, ↓reduceIte, Int.reduceNe, Nat.reduceEqDiff, reduceCtorEq, Nat.reduceLeDiff, Nat.reduceAdd, Nat.reduceLT, hget_c, hset_c, hdel_c, neN, neA_cons, neA_nil, hn3])); (try simp +contextual (disch := omega) only [Z2]); (repeat' (first | (with_reducible intro h) | (with_reducible refine And.intro (by omega) ?_) | (with_reducible refine exP (by omega) ?_) | (with_reducible apply And.intro))))
    exact ⟨r1, r2, r3, r0, _, by simp [hn3], by simp [hn3], by simp [hn3], by simp [hn3], by simp [hn3], by simp [hn3], rfl, rfl⟩
  refine h0.fr ?_
  rintro g H' ⟨r1, r2, r3, r0, e, n1, n2, n3, n4, n5, n6, rfl, rfl⟩
  exact ⟨_, _, FR.perm (H := [_, _, _, _]) (L := [(r3, 16, x.cons.map CoO), (r2, 9, x.eqs.map QnO), (r1, 1, x.right.map T)]) (by simp [subH, hget, names, *]), _, _, ⟨r1, r2, r3, rfl, rfl⟩, rfl, rfl⟩
theorem o65 (xs : List Rul) (hl : xs.length ≤ 1048576) (hx : ∀ x ∈ xs, smRu x) (H : GH) : GCalls Tryz.prog 65 [RuS xs] H (fun g H' => ∃ r, g = .own r 6 0 xs.length ∧ H' = (r, 6, xs.map RuO) :: H) :=
  toSoN mxd i65 (fun _ => rfl) (fun _ => rfl)
    (fun x gs Rs => ∃ r1 r2 r3, gs = [T x.name, T x.left, .own r1 1 0 x.right.length, B x.lit, .own r2 9 0 x.eqs.length, .own r3 16 0 x.cons.length] ∧ Rs = [(r3, 16, x.cons.map CoO), (r2, 9, x.eqs.map QnO), (r1, 1, x.right.map T)])
    (fun x => [T x.name, T x.left, .osl 1 (x.right.map T), B x.lit, .osl 9 (x.eqs.map QnO), .osl 16 (x.cons.map CoO)])
    (by rintro x gs Rs ⟨r1, r2, r3, rfl, rfl⟩; rfl)
    (by
      rintro x gs Rs ⟨r1, r2, r3, rfl, rfl⟩ env r L i H hn hi
      replace hn := neH_of hn
      simp only [List.cons_append, List.nil_append] at hn ⊢
      (replace hn := hn; simp only [neH_cons, neH_nil, neA_cons, neA_nil, and_true, true_and] at hn)
      have h1 := FE.closeT (env := env) (T := (r2, 9, x.eqs.map QnO) :: (r1, 1, x.right.map T) :: (r, 6, L.set i (.agg [T x.name, T x.left, .own r1 1 0 x.right.length, B x.lit, .own r2 9 0 x.eqs.length, .own r3 16 0 x.cons.length])) :: H) (r := r) (r2 := r3) (j := 5) (ks := x.cons.map CoO) (i := i) (by simp [hn]) (by simp only [hget_c, hn, if_true, if_false]; rfl) hi rfl (by simp)
      simp only [hset_c, hn, if_true, if_false] at h1
      refine FE.trans h1 ?_
      have h2 := FE.closeT (env := env) (T := (r1, 1, x.right.map T) :: (r, 6, L.set i (.agg [T x.name, T x.left, .own r1 1 0 x.right.length, B x.lit, .own r2 9 0 x.eqs.length, .osl 16 (x.cons.map CoO)])) :: H) (r := r) (r2 := r2) (j := 4) (ks := x.eqs.map QnO) (i := i) (by simp [hn]) (by simp only [hget_c, hn, if_true, if_false]; rfl) hi rfl (by simp)
      simp only [hset_c, hn, if_true, if_false] at h2
      refine FE.trans h2 ?_
      have h3 := FE.close2 (env := env) (H := H) (r := r) (r1 := r1) (j := 2) (i := i) (L := L) (sz := 6) (sz1 := 1) (ks := x.right.map T) (gs := [T x.name, T x.left, .own r1 1 0 x.right.length, B x.lit, .osl 9 (x.eqs.map QnO), .osl 16 (x.cons.map CoO)]) (by simp [hn]) hi rfl (by simp)
      exact h3)
    xs hl (by decide) (fun x hm H => o124 x (hx x hm) H) H
theorem o17 (x : Gram) (hx : smGr x) (H : GH) : GCalls Tryz.prog 17 [Gr x] H (fun g H' => ∃ rs rr, ¬ rr = rs ∧ g = .agg [.own rs 2 0 x.syms.length, .own rr 6 0 x.rules.length] ∧ H' = (rr, 6, x.rules.map RuO) :: (rs, 2, x.syms.map SyO) :: H) := by
  have h0 : GCalls Tryz.prog 17 [Gr x] H (fun g H' => ∃ rs rr r0 e, ¬ rs = r0 ∧ ¬ rr = r0 ∧ ¬ rr = rs ∧ g = .agg [.own rs 2 0 x.syms.length, .own rr 6 0 x.rules.length] ∧ H' = (rr, 6, x.rules.map RuO) :: (rs, 2, x.syms.map SyO) :: (r0, 2, e) :: H) := by
    refine gstart mxd i17 rfl (by simp) ?_; simp (maxSteps := 2000000) only [↓ S2, S2, vIte, ↓reduceIte, Int.reduceNe, Nat.reduceEqDiff, reduceCtorEq, Nat.reduceLeDiff, Nat.reduceAdd, Nat.reduceLT]
    ((try simp (maxSteps := 4000000) +contextual only [↓ S2, S2, vIte, ↓reduceIte, Int.reduceNe, Nat.reduceEqDiff, reduceCtorEq, Nat.reduceLeDiff, Nat.reduceAdd, Nat.reduceLT, hget_c, hset_c, hdel_c, neN, neA_cons, neA_nil, ]); (repeat (simp only [brGen]; try simp (maxSteps := 4000000) +contextual only [↓ S2, S2, vIte, ↓reduceIte, Int.reduceNe, Nat.reduceEqDiff, reduceCtorEq, Nat.reduceLeDiff, Nat.reduceAdd, Nat.reduceLT, hget_c, hset_c, hdel_c, neN, neA_cons, neA_nil, ])); (try simp +contextual (disch := omega) only [Z2]); (repeat' (first | (with_reducible intro h) | (with_reducible refine And.intro (by omega) ?_) | (with_reducible refine exP (by omega) ?_) | (with_reducible apply And.intro))))
    rename_i r0
    refine callS.of (o64 x.syms hx.1 hx.2.2.1 _) ?_
    rintro g H' ⟨r1, rfl, rfl⟩ hn
    replace hn := neH_of hn
    (replace hn := hn; simp only [neH_cons, neH_nil, neA_cons, neA_nil, and_true, true_and] at hn)
    ((try simp (maxSteps := 4000000) +contextual only [↓ S2, S2, vIte, ↓reduceIte, Int.reduceNe, Nat.reduceEqDiff, reduceCtorEq, Nat.reduceLeDiff, Nat.reduceAdd, Nat.reduceLT, hget_c, hset_c, hdel_c, neN, neA_cons, neA_nil, hn]); (repeat (simp only [brGen]; try simp (maxSteps := 4000000) +contextual only [↓ S2, S2, vIte, ↓reduceIte, Int.reduceNe, Nat.reduceEqDiff, reduceCtorEq, Nat.reduceLeDiff, Nat.reduceAdd, Nat.reduceLT, hget_c, hset_c, hdel_c, neN, neA_cons, neA_nil, hn])); (try simp +contextual (disch := omega) only [Z2]); (repeat' (first | (with_reducible intro h) | (with_reducible refine And.intro (by omega) ?_) | (with_reducible refine exP (by omega) ?_) | (with_reducible apply And.intro))))
    refine callS.of (o65 x.rules hx.2.1 hx.2.2.2 _) ?_
    rintro g H' ⟨r2, rfl, rfl⟩ hn2
    replace hn2 := neH_of hn2
    (replace hn2 := hn2; simp only [neH_cons, neH_nil, neA_cons, neA_nil, and_true, true_and] at hn2)
    ((try simp (maxSteps := 4000000) +contextual only [↓ S2, S2, vIte, ↓reduceIte, Int.reduceNe, Nat.reduceEqDiff, reduceCtorEq, Nat.reduceLeDiff, Nat.reduceAdd, Nat.reduceLT, hget_c, hset_c, hdel_c, neN, neA_cons, neA_nil, hn2]); (repeat (simp only [brGen]; try simp (maxSteps := 4000000) +contextual only [↓ S2, S2, vIte, ↓reduceIte, Int.reduceNe, Nat.reduceEqDiff, reduceCtorEq, Nat.reduceLeDiff, Nat.reduceAdd, Nat.reduceLT, hget_c, hset_c, hdel_c, neN, neA_cons, neA_nil, hn2])); (try simp +contextual (disch := omega) only [Z2]); (repeat' (first | (with_reducible intro h) | (with_reducible refine And.intro (by omega) ?_) | (with_reducible refine exP (by omega) ?_) | (with_reducible apply And.intro))))
    exact ⟨r1, r2, r0, _, by simp [hn2], by simp [hn2], by simp [hn2], rfl, rfl⟩
  refine h0.fr ?_
  rintro g H' ⟨r1, r2, r0, e, n1, n2, n3, rfl, rfl⟩
  exact ⟨_, _, FR.perm (H := [_, _, _]) (L := [(r2, 6, x.rules.map RuO), (r1, 2, x.syms.map SyO)]) (by simp [subH, hget, names, *]), r1, r2, n3, rfl, rfl⟩
end Go.Proofs.YtfkngocbihkdfaaGreat

namespace Go.Proofs.YtfkngocbihkdfaaGreat
open Go.Gh
set_option maxRecDepth 20000
set_option linter.unusedSimpArgs false
set_option linter.unusedVariables false
theorem o131 : ∀ (e : Exp), wEx e ≤ 1048576 → ∀ H, GCalls Tryz.prog 131 [Ex e] H (fun g H' => ∃ r, g = .agg [I e.kind, I e.n, I e.pos, I e.type, T e.sym, T e.name, .own r 7 0 e.args.length] ∧ H' = (r, 7, e.args.map ExO) :: H) := by
  refine Exp.indA fun e ih hw H => ?_
  obtain ⟨hl, ha⟩ := args_small hw
  have h0 : GCalls Tryz.prog 131 [Ex e] H (fun g H' => ∃ r r0 u, ¬ r = r0 ∧ g = .agg [I e.kind, I e.n, I e.pos, I e.type, T e.sym, T e.name, .own r 7 0 e.args.length] ∧ H' = (r, 7, e.args.map ExO) :: (r0, 7, u) :: H) := by
    rw [Ex_eq]
    refine gstart mxd i131 rfl (by simp) ?_; simp (maxSteps := 2000000) only [↓ S2, S2, vIte, ↓reduceIte, Int.reduceNe, Nat.reduceEqDiff, reduceCtorEq, Nat.reduceLeDiff, Nat.reduceAdd, Nat.reduceLT]
    ((try simp (maxSteps := 4000000) +contextual only [↓ S2, S2, vIte, ↓reduceIte, Int.reduceNe, Nat.reduceEqDiff, reduceCtorEq, Nat.reduceLeDiff, Nat.reduceAdd, Nat.reduceLT, hget_c, hset_c, hdel_c, neN, neA_cons, neA_nil, ]); (repeat (simp only [brGen]; try simp (maxSteps := 4000000) +contextual only [↓ S2, S2, vIte, ↓reduceIte, Int.reduceNe, Nat.reduceEqDiff, reduceCtorEq, Nat.reduceLeDiff, Nat.reduceAdd, Nat.reduceLT, hget_c, hset_c, hdel_c, neN, neA_cons, neA_nil, ])); (try simp +contextual (disch := omega) only [Z2]); (repeat' (first | (with_reducible intro h) | (with_reducible refine And.intro (by omega) ?_) | (with_reducible refine exP (by omega) ?_) | (with_reducible apply And.intro))))
    rename_i rb
    obtain ⟨q0, ho, hq⟩ := vfresh (names ((rb, 7, [GV.agg [I e.kind, I e.n, I e.pos, I e.type, T e.sym, T e.name, ExS e.args]]) :: H))
    refine wloopF mxd (ι := { y : Nat × Nat // y.2 ≤ e.args.length }) (fun y => [(1, .ptr rb 7 0 0), (2, .raw 7), (3, .own y.1.1 7 0 y.1.2), (7, ExS e.args), (8, I e.args.length), (9, I y.1.2)]) (fun y => (y.1.1, 7, (e.args.take y.1.2).map ExO) :: (rb, 7, [.agg [I e.kind, I e.n, I e.pos, I e.type, T e.sym, T e.name, ExS e.args]]) :: H) (fun y => e.args.length - y.1.2) ⟨(q0, 0), by simp⟩ (FE.virt (j := 3) (sz := 7) rfl ho hq) (by simp [E2, eset]) rfl ?_
    rintro ⟨⟨q, k⟩, hk⟩ hn
    dsimp only at hk hn ⊢
    refine gwp_ok mxd ?_
    replace hn := neH_of hn
    (replace hn := hn; simp only [neH_cons, neH_nil, neA_cons, neA_nil, and_true, true_and] at hn)
    rcases Nat.lt_or_ge k e.args.length with hlt | hge
    · ((try simp (maxSteps := 4000000) +contextual only [↓ S2, S2, vIte, ↓reduceIte, Int.reduceNe, Nat.reduceEqDiff, reduceCtorEq, Nat.reduceLeDiff, Nat.reduceAdd, Nat.reduceLT, hget_c, hset_c, hdel_c, neN, neA_cons, neA_nil, hn, XE, List.length_append, List.length_singleton, List.length_map, List.length_take, maxLv]); (repeat (simp only [brGen]; try simp (maxSteps := 4000000) +contextual only [↓ S2, S2, vIte, ↓reduceIte, Int.reduceNe, Nat.reduceEqDiff, reduceCtorEq, Nat.reduceLeDiff, Nat.reduceAdd, Nat.reduceLT, hget_c, hset_c, hdel_c, neN, neA_cons, neA_nil, hn, XE, List.length_append, List.length_singleton, List.length_map, List.length_take, maxLv])); (try simp +contextual (disch := omega) only [Z2]); (repeat' (first | (with_reducible intro h) | (with_reducible refine And.intro (by omega) ?_) | (with_reducible refine exP (by omega) ?_) | (with_reducible apply And.intro))))
      all_goals try (exfalso; omega)
      refine callS.of (ih e.args[k] (List.getElem_mem _) (ha _ (List.getElem_mem _)) _) ?_
      rintro g H' ⟨rc, rfl, rfl⟩ hnc
      replace hnc := neH_of hnc
      (replace hnc := hnc; simp only [neH_cons, neH_nil, neA_cons, neA_nil, and_true, true_and] at hnc)
      ((try simp (maxSteps := 4000000) +contextual only [↓ S2, S2, vIte, ↓reduceIte, Int.reduceNe, Nat.reduceEqDiff, reduceCtorEq, Nat.reduceLeDiff, Nat.reduceAdd, Nat.reduceLT, hget_c, hset_c, hdel_c, neN, neA_cons, neA_nil, hn, hnc, List.length_append, List.length_singleton, List.length_map, List.length_take, maxLv]); (repeat (simp only [brGen]; try simp (maxSteps := 4000000) +contextual only [↓ S2, S2, vIte, ↓reduceIte, Int.reduceNe, Nat.reduceEqDiff, reduceCtorEq, Nat.reduceLeDiff, Nat.reduceAdd, Nat.reduceLT, hget_c, hset_c, hdel_c, neN, neA_cons, neA_nil, hn, hnc, List.length_append, List.length_singleton, List.length_map, List.length_take, maxLv])); (try simp +contextual (disch := omega) only [Z2]); (repeat' (first | (with_reducible intro h) | (with_reducible refine And.intro (by omega) ?_) | (with_reducible refine exP (by omega) ?_) | (with_reducible apply And.intro))))
      all_goals try (exfalso; omega)
      rename_i r3 _ r4
      refine nxF ⟨(r4, k + 1), by omega⟩ (by simp; omega) (FE.trans (FE.perm (H := [_, _, _, _]) (L := [(r4, _), (rc, _), (rb, _)]) (by repeat' (first | exact trivial | (refine And.intro (by simp only [hget_c, *, if_true, if_false]; rfl) (And.intro (by simp [names_cons, names_nil, *]) ?_))))) (FE.closeL2 (j := 6) (by simp [*]) rfl (by simp))) (by simp [E2]) ?_
      rw [List.take_of_length_le (by simp; omega), ← take_snocM ExO hlt, ExO_eq]
      rfl
    · obtain rfl : k = e.args.length := by omega
      ((try simp (maxSteps := 4000000) +contextual only [↓ S2, S2, vIte, ↓reduceIte, Int.reduceNe, Nat.reduceEqDiff, reduceCtorEq, Nat.reduceLeDiff, Nat.reduceAdd, Nat.reduceLT, hget_c, hset_c, hdel_c, neN, neA_cons, neA_nil, hn, XE, maxLv]); (repeat (simp only [brGen]; try simp (maxSteps := 4000000) +contextual only [↓ S2, S2, vIte, ↓reduceIte, Int.reduceNe, Nat.reduceEqDiff, reduceCtorEq, Nat.reduceLeDiff, Nat.reduceAdd, Nat.reduceLT, hget_c, hset_c, hdel_c, neN, neA_cons, neA_nil, hn, XE, maxLv])); (try simp +contextual (disch := omega) only [Z2]); (repeat' (first | (with_reducible intro h) | (with_reducible refine And.intro (by omega) ?_) | (with_reducible refine exP (by omega) ?_) | (with_reducible apply And.intro))))
      all_goals try (exfalso; omega)
      rw [List.take_length]
      exact ⟨q, rb, _, hn.1.1, rfl, rfl⟩
  refine h0.fr ?_
  rintro g H' ⟨r, r0, u, hne, rfl, rfl⟩
  exact ⟨_, _, FR.perm (H := [_, _]) (L := [(r, 7, e.args.map ExO)]) (by simp [subH, hget, names]), r, rfl, rfl⟩
theorem w63 (r : Rul) (o : Int × ByteArray) (hr : smRu r) : Pure Tryz.prog 63 [Ru r, Occ o] (· = .tup [Ex (eqnE r o), B (eqnF r o).isSome]) := by
  refine Pure.bor ?_
  have hlen := hr.2.1
  refine gstart mxd i63 rfl (by simp) ?_; simp (maxSteps := 2000000) only [↓ S2, S2, vIte, ↓reduceIte, Int.reduceNe, Nat.reduceEqDiff, reduceCtorEq, Nat.reduceLeDiff, Nat.reduceAdd, Nat.reduceLT]
  refine wloop mxd (ι := { i : Nat // i ≤ r.eqs.length ∧ ∀ y ∈ r.eqs.take i, decide (y.pos = o.1 ∧ y.name = o.2) = false }) (fun i => [(2, .rop 6 (Ru r)), (3, .rop 2 (Occ o)), (4, .raw 7), (6, I i.1)]) (fun _ => []) (fun i => r.eqs.length - i.1) ⟨0, by simp⟩ (by simp [E2]) rfl ?_
  rintro ⟨i, hi, hn⟩
  rcases Nat.lt_or_ge i r.eqs.length with hlt | hge
  · by_cases he : r.eqs[i].pos = o.1 ∧ r.eqs[i].name = o.2
    · ((try simp (maxSteps := 4000000) +contextual only [↓ S2, S2, vIte, ↓reduceIte, Int.reduceNe, Nat.reduceEqDiff, reduceCtorEq, Nat.reduceLeDiff, Nat.reduceAdd, Nat.reduceLT, hget_c, hset_c, hdel_c, neN, neA_cons, neA_nil, XE, he, and_self, decide_true]); (repeat (simp only [brGen]; try simp (maxSteps := 4000000) +contextual only [↓ S2, S2, vIte, ↓reduceIte, Int.reduceNe, Nat.reduceEqDiff, reduceCtorEq, Nat.reduceLeDiff, Nat.reduceAdd, Nat.reduceLT, hget_c, hset_c, hdel_c, neN, neA_cons, neA_nil, XE, he, and_self, decide_true])); (try simp +contextual (disch := omega) only [Z2]); (repeat' (first | (with_reducible intro h) | (with_reducible refine And.intro (by omega) ?_) | (with_reducible refine exP (by omega) ?_) | (with_reducible apply And.intro))))
      all_goals try (exfalso; omega)
      refine callS.eq (w122 r.eqs[i].expr (hr.2.2.2.1 _ (List.getElem_mem _))) ?_
      ((try simp (maxSteps := 4000000) +contextual only [↓ S2, S2, vIte, ↓reduceIte, Int.reduceNe, Nat.reduceEqDiff, reduceCtorEq, Nat.reduceLeDiff, Nat.reduceAdd, Nat.reduceLT, hget_c, hset_c, hdel_c, neN, neA_cons, neA_nil, XE]); (repeat (simp only [brGen]; try simp (maxSteps := 4000000) +contextual only [↓ S2, S2, vIte, ↓reduceIte, Int.reduceNe, Nat.reduceEqDiff, reduceCtorEq, Nat.reduceLeDiff, Nat.reduceAdd, Nat.reduceLT, hget_c, hset_c, hdel_c, neN, neA_cons, neA_nil, XE])); (try simp +contextual (disch := omega) only [Z2]); (repeat' (first | (with_reducible intro h) | (with_reducible refine And.intro (by omega) ?_) | (with_reducible refine exP (by omega) ?_) | (with_reducible apply And.intro))))
      have e := find_hit (p := fun x : Eqn => decide (x.pos = o.1 ∧ x.name = o.2)) (xs := r.eqs) (i := i) hlt (by simp [he]) hn
      simp only [eqnE, eqnF, e]
      exact .refl
    · ((try simp (maxSteps := 4000000) +contextual only [↓ S2, S2, vIte, ↓reduceIte, Int.reduceNe, Nat.reduceEqDiff, reduceCtorEq, Nat.reduceLeDiff, Nat.reduceAdd, Nat.reduceLT, hget_c, hset_c, hdel_c, neN, neA_cons, neA_nil, XE]); (repeat (simp only [brGen]; try simp (maxSteps := 4000000) +contextual only [↓ S2, S2, vIte, ↓reduceIte, Int.reduceNe, Nat.reduceEqDiff, reduceCtorEq, Nat.reduceLeDiff, Nat.reduceAdd, Nat.reduceLT, hget_c, hset_c, hdel_c, neN, neA_cons, neA_nil, XE])); (try simp +contextual (disch := omega) only [Z2]); (repeat' (first | (with_reducible intro h) | (with_reducible refine And.intro (by omega) ?_) | (with_reducible refine exP (by omega) ?_) | (with_reducible apply And.intro))))
      all_goals first
        | exact nx ⟨i + 1, by omega, take_step hlt (by simp [he]) hn⟩ (by simp; omega) (by simp [E2]) rfl
        | (exfalso; omega)
        | (exfalso; exact he ⟨by assumption, by assumption⟩)
  · have : i = r.eqs.length := by omega
    subst this
    rw [List.take_of_length_le (Nat.le_refl _)] at hn
    have e := find_none hn
    ((try simp (maxSteps := 4000000) +contextual only [↓ S2, S2, vIte, ↓reduceIte, Int.reduceNe, Nat.reduceEqDiff, reduceCtorEq, Nat.reduceLeDiff, Nat.reduceAdd, Nat.reduceLT, hget_c, hset_c, hdel_c, neN, neA_cons, neA_nil, XE]); (repeat (simp only [brGen]; try simp (maxSteps := 4000000) +contextual only [↓ S2, S2, vIte, ↓reduceIte, Int.reduceNe, Nat.reduceEqDiff, reduceCtorEq, Nat.reduceLeDiff, Nat.reduceAdd, Nat.reduceLT, hget_c, hset_c, hdel_c, neN, neA_cons, neA_nil, XE])); (try simp +contextual (disch := omega) only [Z2]); (repeat' (first | (with_reducible intro h) | (with_reducible refine And.intro (by omega) ?_) | (with_reducible refine exP (by omega) ?_) | (with_reducible apply And.intro))))
    all_goals try (exfalso; omega)
    simp only [eqnE, eqnF, e]
    exact .tup (.cons (.agg (.cons .refl (.cons .refl (.cons .refl (.cons .refl (.cons .refl (.cons .refl (.cons .nil .nil)))))))) (.cons .refl .nil))
theorem o71 (r : Rul) (o : Int × ByteArray) (hr : smRu r) (H : GH) : GCalls Tryz.prog 71 [Ru r, Occ o] H (fun g H' => ∃ q, g = .tup [.agg [I (eqnE r o).kind, I (eqnE r o).n, I (eqnE r o).pos, I (eqnE r o).type, T (eqnE r o).sym, T (eqnE r o).name, .own q 7 0 (eqnE r o).args.length], B (eqnF r o).isSome] ∧ H' = (q, 7, (eqnE r o).args.map ExO) :: H) := by
  have h0 : GCalls Tryz.prog 71 [Ru r, Occ o] H (fun g H' => (∃ q, g = .tup [.agg [I (eqnE r o).kind, I (eqnE r o).n, I (eqnE r o).pos, I (eqnE r o).type, T (eqnE r o).sym, T (eqnE r o).name, .own q 7 0 (eqnE r o).args.length], B (eqnF r o).isSome] ∧ H' = (q, 7, (eqnE r o).args.map ExO) :: H) ∨ (eqnF r o = none ∧ g = .tup [.agg [I 0, I 0, I 0, I 0, T noS, T noS, .val (.slice none 0 0)], B false] ∧ H' = H)) := by
    have hlen := hr.2.1
    refine gstart mxd i71 rfl (by simp) ?_; simp (maxSteps := 2000000) only [↓ S2, S2, vIte, ↓reduceIte, Int.reduceNe, Nat.reduceEqDiff, reduceCtorEq, Nat.reduceLeDiff, Nat.reduceAdd, Nat.reduceLT]
    refine wloop mxd (ι := { i : Nat // i ≤ r.eqs.length ∧ ∀ y ∈ r.eqs.take i, decide (y.pos = o.1 ∧ y.name = o.2) = false }) (fun i => [(3, .rop 2 (Occ o)), (4, .raw 7), (9, QnS r.eqs), (10, I r.eqs.length), (11, I i.1)]) (fun _ => H) (fun i => r.eqs.length - i.1) ⟨0, by simp⟩ (by simp [E2]) rfl ?_
    rintro ⟨i, hi, hn⟩
    rcases Nat.lt_or_ge i r.eqs.length with hlt | hge
    · by_cases he : r.eqs[i].pos = o.1 ∧ r.eqs[i].name = o.2
      · ((try simp (maxSteps := 4000000) +contextual only [↓ S2, S2, vIte, ↓reduceIte, Int.reduceNe, Nat.reduceEqDiff, reduceCtorEq, Nat.reduceLeDiff, Nat.reduceAdd, Nat.reduceLT, hget_c, hset_c, hdel_c, neN, neA_cons, neA_nil, XE, he, and_self, decide_true]); (repeat (simp only [brGen]; try simp (maxSteps := 4000000) +contextual only [↓ S2, S2, vIte, ↓reduceIte, Int.reduceNe, Nat.reduceEqDiff, reduceCtorEq, Nat.reduceLeDiff, Nat.reduceAdd, Nat.reduceLT, hget_c, hset_c, hdel_c, neN, neA_cons, neA_nil, XE, he, and_self, decide_true])); (try simp +contextual (disch := omega) only [Z2]); (repeat' (first | (with_reducible intro h) | (with_reducible refine And.intro (by omega) ?_) | (with_reducible refine exP (by omega) ?_) | (with_reducible apply And.intro))))
        all_goals try (exfalso; omega)
        refine callS.of (o131 r.eqs[i].expr (hr.2.2.2.1 _ (List.getElem_mem _)) _) ?_
        rintro g H' ⟨q, rfl, rfl⟩ hq
        ((try simp (maxSteps := 4000000) +contextual only [↓ S2, S2, vIte, ↓reduceIte, Int.reduceNe, Nat.reduceEqDiff, reduceCtorEq, Nat.reduceLeDiff, Nat.reduceAdd, Nat.reduceLT, hget_c, hset_c, hdel_c, neN, neA_cons, neA_nil, XE]); (repeat (simp only [brGen]; try simp (maxSteps := 4000000) +contextual only [↓ S2, S2, vIte, ↓reduceIte, Int.reduceNe, Nat.reduceEqDiff, reduceCtorEq, Nat.reduceLeDiff, Nat.reduceAdd, Nat.reduceLT, hget_c, hset_c, hdel_c, neN, neA_cons, neA_nil, XE])); (try simp +contextual (disch := omega) only [Z2]); (repeat' (first | (with_reducible intro h) | (with_reducible refine And.intro (by omega) ?_) | (with_reducible refine exP (by omega) ?_) | (with_reducible apply And.intro))))
        have e := find_hit (p := fun x : Eqn => decide (x.pos = o.1 ∧ x.name = o.2)) (xs := r.eqs) (i := i) hlt (by simp [he]) hn
        simp only [eqnE, eqnF, e]
        exact .inl ⟨q, rfl, rfl⟩
      · ((try simp (maxSteps := 4000000) +contextual only [↓ S2, S2, vIte, ↓reduceIte, Int.reduceNe, Nat.reduceEqDiff, reduceCtorEq, Nat.reduceLeDiff, Nat.reduceAdd, Nat.reduceLT, hget_c, hset_c, hdel_c, neN, neA_cons, neA_nil, XE]); (repeat (simp only [brGen]; try simp (maxSteps := 4000000) +contextual only [↓ S2, S2, vIte, ↓reduceIte, Int.reduceNe, Nat.reduceEqDiff, reduceCtorEq, Nat.reduceLeDiff, Nat.reduceAdd, Nat.reduceLT, hget_c, hset_c, hdel_c, neN, neA_cons, neA_nil, XE])); (try simp +contextual (disch := omega) only [Z2]); (repeat' (first | (with_reducible intro h) | (with_reducible refine And.intro (by omega) ?_) | (with_reducible refine exP (by omega) ?_) | (with_reducible apply And.intro))))
        all_goals first
          | exact nx ⟨i + 1, by omega, take_step hlt (by simp [he]) hn⟩ (by simp; omega) (by simp [E2]) rfl
          | (exfalso; omega)
          | (exfalso; exact he ⟨by assumption, by assumption⟩)
    · have : i = r.eqs.length := by omega
      subst this
      rw [List.take_of_length_le (Nat.le_refl _)] at hn
      have e := find_none hn
      ((try simp (maxSteps := 4000000) +contextual only [↓ S2, S2, vIte, ↓reduceIte, Int.reduceNe, Nat.reduceEqDiff, reduceCtorEq, Nat.reduceLeDiff, Nat.reduceAdd, Nat.reduceLT, hget_c, hset_c, hdel_c, neN, neA_cons, neA_nil, XE]); (repeat (simp only [brGen]; try simp (maxSteps := 4000000) +contextual only [↓ S2, S2, vIte, ↓reduceIte, Int.reduceNe, Nat.reduceEqDiff, reduceCtorEq, Nat.reduceLeDiff, Nat.reduceAdd, Nat.reduceLT, hget_c, hset_c, hdel_c, neN, neA_cons, neA_nil, XE])); (try simp +contextual (disch := omega) only [Z2]); (repeat' (first | (with_reducible intro h) | (with_reducible refine And.intro (by omega) ?_) | (with_reducible refine exP (by omega) ?_) | (with_reducible apply And.intro))))
      all_goals try (exfalso; omega)
      exact .inr ⟨e, rfl⟩
  refine h0.fr ?_
  rintro g H' (⟨q, rfl, rfl⟩ | ⟨e, rfl, rfl⟩)
  · exact ⟨_, _, FR.refl _ _, q, rfl, rfl⟩
  · refine ⟨_, _, FR.trans (FR.addv (r := vname H') (sz := 7) (vname_odd H') (vname_new H')) (FR.sub (.tup (.cons (.agg (nilL_bor (l := [_, _, _, _, _, _]) (r := vname H') (sz := 7))) (.cons .refl .nil)))), vname H', ?_, ?_⟩
    · simp only [eqnE, e]; rfl
    · simp only [eqnE, e]; rfl
end Go.Proofs.YtfkngocbihkdfaaGreat

