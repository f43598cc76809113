/- The law FnExactTreeCycle returns true whatever the input, and the input reads behind the call as before. No condition. -/
import Derived.Test.YtbdmpkidcpblaaaGreatCyc3
namespace Go.Proofs.YtbdmpkidcpblaaaGreat
open Go.Gh
set_option maxRecDepth 20000
set_option linter.unusedSimpArgs false
set_option linter.unusedVariables false
theorem o132 (xs : List ByteArray) (hx : xs.length ≤ 1048576) (H : GH) : GCalls Tryz.prog 132 [TS xs] H (fun g H' => ∃ r, g = .own r 1 0 xs.length ∧ H' = (r, 1, xs.map T) :: H) := by
  refine gstart mxd i132 rfl (by simp) ?_; simp (maxSteps := 2000000) only [↓ S2, S2, vIte, ↓reduceIte, Int.reduceNe, Nat.reduceEqDiff, reduceCtorEq, Nat.reduceLeDiff, Nat.reduceAdd, Nat.reduceLT]
  refine ⟨by omega, by omega, by omega, by omega, fun r hr => ?_⟩
  refine wloop mxd (ι := { i : Nat // i ≤ xs.length }) (fun i => [(0, TS xs), (3, .own r 1 0 xs.length), (4, I i.1)]) (fun i => (r, 1, (xs.take i.1).map T ++ List.replicate (xs.length - i.1) (T noS)) :: H) (fun i => xs.length - i.1) ⟨0, by simp⟩ (by simp [E2]) (by simp [noS]) ?_
  rintro ⟨i, hi⟩
  ((try with_reducible refine mkQI ?_); (repeat ((first | (with_reducible refine mkQU ?_) | simp only [brGen]); try simp (maxSteps := 2000000) only [↓ S2, S2, vIte, ↓reduceIte, Int.reduceNe, Nat.reduceEqDiff, reduceCtorEq, Nat.reduceLeDiff, Nat.reduceAdd, Nat.reduceLT])); (try simp +contextual (disch := omega) only [Z2]); (repeat' (first | (with_reducible intro h) | (with_reducible refine And.intro (by omega) ?_) | (with_reducible refine exP (by omega) ?_) | (with_reducible apply And.intro))))
  · refine ⟨by simp; omega, nx ⟨i + 1, by omega⟩ (by simp; omega) (by simp [E2]) ?_⟩
    rw [fill_set xs T (T noS) i h]
  · have : i = xs.length := by omega
    subst this
    exact ⟨r, rfl, by simp⟩
theorem o131 (xs : List Att) (hl : xs.length ≤ 1048576) (H : GH) : GCalls Tryz.prog 131 [AtS xs] H (fun g H' => ∃ r, g = .own r 4 0 xs.length ∧ H' = (r, 4, xs.map At) :: H) :=
  toSo mxd i131 (fun _ => rfl) (fun _ => rfl) (fun _ => rfl) (fun _ => rfl) xs hl (by decide) (fun x _ => w197 x) H
theorem o67 (x : Sym) (hx : smSy x) (H : GH) : GCalls Tryz.prog 67 [Sy x] H (fun g H' => ∃ r, g = .agg [T x.name, .own r 4 0 x.atts.length] ∧ H' = (r, 4, x.atts.map At) :: H) := by
  have h0 : GCalls Tryz.prog 67 [Sy x] H (fun g H' => ∃ r r0 e, ¬ r = r0 ∧ g = .agg [T x.name, .own r 4 0 x.atts.length] ∧ H' = (r, 4, x.atts.map At) :: (r0, 2, e) :: H) := by
    refine gstart mxd i67 rfl (by simp) ?_; simp (maxSteps := 2000000) only [↓ S2, S2, vIte, ↓reduceIte, Int.reduceNe, Nat.reduceEqDiff, reduceCtorEq, Nat.reduceLeDiff, Nat.reduceAdd, Nat.reduceLT]
    intro r0 hr0
    refine callS.of (o131 _ hx _) ?_
    rintro g H' ⟨r, rfl, rfl⟩ hn
    have hn := neH_of hn
    (replace hn := hn; simp only [neH_cons, neH_nil, neA_cons, neA_nil, and_true, true_and] at hn)
    ((try with_reducible refine mkQI ?_); (repeat ((first | (with_reducible refine mkQU ?_) | simp only [brGen]); try simp (maxSteps := 2000000) only [↓ S2, S2, vIte, ↓reduceIte, Int.reduceNe, Nat.reduceEqDiff, reduceCtorEq, Nat.reduceLeDiff, Nat.reduceAdd, Nat.reduceLT, hget_c, hset_c, hdel_c, hn])); (try simp +contextual (disch := omega) only [Z2, hget_c, hset_c, hdel_c, hn]); (repeat' (first | (with_reducible intro h) | (with_reducible refine And.intro (by omega) ?_) | (with_reducible refine exP (by omega) ?_) | (with_reducible apply And.intro))))
    exact ⟨r, r0, _, hn.1.1, rfl, rfl⟩
  refine h0.fr ?_
  rintro g H' ⟨r, r0, e, hne, rfl, rfl⟩
  exact ⟨_, _, FR.perm (H := [(r, 4, x.atts.map At), (r0, 2, e)]) (L := [(r, 4, x.atts.map At)]) (by simp [subH, hget, names]), r, rfl, rfl⟩
theorem o32 (xs : List Sym) (hl : xs.length ≤ 1048576) (hx : ∀ x ∈ xs, smSy x) (H : GH) : GCalls Tryz.prog 32 [SyS xs] H (fun g H' => ∃ r, g = .own r 2 0 xs.length ∧ H' = (r, 2, xs.map SyO) :: H) :=
  toSo1 mxd i32 (fun _ => rfl) (fun _ => rfl) 1 4 (fun x => x.atts.map At) (fun x r => [T x.name, .own r 4 0 x.atts.length]) (fun x => [T x.name, .osl 4 (x.atts.map At)]) (fun _ _ => rfl) (fun _ _ => by simp) (fun _ _ => rfl) xs hl (by decide) (fun x hm H => o67 x (hx x hm) H) H
theorem o247 : ∀ (e : Exp), wEx e ≤ 1048576 → ∀ H, GCalls Tryz.prog 247 [Ex e] H (fun g H' => ∃ r, g = .agg [I e.kind, I e.n, I e.pos, I e.type, T e.sym, T e.name, .own r 7 0 e.args.length] ∧ H' = (r, 7, e.args.map ExO) :: H) := by
  refine Exp.indA fun e ih hw H => ?_
  obtain ⟨hl, ha⟩ := args_small hw
  have hs : ∀ H, GCalls Tryz.prog 281 [ExS e.args] H (fun g H' => ∃ r, g = .own r 7 0 e.args.length ∧ H' = (r, 7, e.args.map ExO) :: H) := fun H => by
    have := toSo1 mxd i281 isAgg_Ex geR_Ex 6 7 (fun e => e.args.map ExO) (fun e r => [I e.kind, I e.n, I e.pos, I e.type, T e.sym, T e.name, .own r 7 0 e.args.length]) (fun e => [I e.kind, I e.n, I e.pos, I e.type, T e.sym, T e.name, .osl 7 (e.args.map ExO)]) (fun _ _ => rfl) (fun _ _ => by simp) (fun _ _ => rfl) e.args hl (by decide) (fun a hm H => ih a hm (ha a hm) H) H
    have e1 : (fun e : Exp => GV.agg [I e.kind, I e.n, I e.pos, I e.type, T e.sym, T e.name, .osl 7 (e.args.map ExO)]) = ExO := funext fun e => (ExO_eq e).symm
    rw [e1] at this
    exact this
  have h0 : GCalls Tryz.prog 247 [Ex e] H (fun g H' => ∃ r r0 u, ¬ r = r0 ∧ g = .agg [I e.kind, I e.n, I e.pos, I e.type, T e.sym, T e.name, .own r 7 0 e.args.length] ∧ H' = (r, 7, e.args.map ExO) :: (r0, 7, u) :: H) := by
    refine gstart mxd i247 rfl (by simp) ?_; simp (maxSteps := 2000000) only [↓ S2, S2, vIte, ↓reduceIte, Int.reduceNe, Nat.reduceEqDiff, reduceCtorEq, Nat.reduceLeDiff, Nat.reduceAdd, Nat.reduceLT]
    simp (maxSteps := 2000000) only [↓ S2, S2, vIte, ↓reduceIte, Int.reduceNe, Nat.reduceEqDiff, reduceCtorEq, Nat.reduceLeDiff, Nat.reduceAdd, Nat.reduceLT, XE]
    intro r0 hr0
    refine callS.of (hs _) ?_
    rintro g H' ⟨r, rfl, rfl⟩ hn
    have hn := neH_of hn
    (replace hn := hn; simp only [neH_cons, neH_nil, neA_cons, neA_nil, and_true, true_and] at hn)
    ((try with_reducible refine mkQI ?_); (repeat ((first | (with_reducible refine mkQU ?_) | simp only [brGen]); try simp (maxSteps := 2000000) only [↓ S2, S2, vIte, ↓reduceIte, Int.reduceNe, Nat.reduceEqDiff, reduceCtorEq, Nat.reduceLeDiff, Nat.reduceAdd, Nat.reduceLT, hget_c, hset_c, hdel_c, hn])); (try simp +contextual (disch := omega) only [Z2, hget_c, hset_c, hdel_c, hn]); (repeat' (first | (with_reducible intro h) | (with_reducible refine And.intro (by omega) ?_) | (with_reducible refine exP (by omega) ?_) | (with_reducible apply And.intro))))
    exact ⟨r, r0, _, hn.1.1, rfl, rfl⟩
  refine h0.fr ?_
  rintro g H' ⟨r, r0, u, hne, rfl, rfl⟩
  exact ⟨_, _, FR.perm (H := [(r, 7, e.args.map ExO), (r0, 7, u)]) (L := [(r, 7, e.args.map ExO)]) (by simp [subH, hget, names]), r, rfl, rfl⟩
theorem o198 (x : Eqn) (hx : smEq x) (H : GH) : GCalls Tryz.prog 198 [Qn x] H (fun g H' => ∃ r, g = .agg [I x.pos, T x.name, I x.expr.kind, I x.expr.n, I x.expr.pos, I x.expr.type, T x.expr.sym, T x.expr.name, .own r 7 0 x.expr.args.length] ∧ H' = (r, 7, x.expr.args.map ExO) :: H) := by
  have h0 : GCalls Tryz.prog 198 [Qn x] H (fun g H' => ∃ r r0 u, ¬ r = r0 ∧ g = .agg [I x.pos, T x.name, I x.expr.kind, I x.expr.n, I x.expr.pos, I x.expr.type, T x.expr.sym, T x.expr.name, .own r 7 0 x.expr.args.length] ∧ H' = (r, 7, x.expr.args.map ExO) :: (r0, 9, u) :: H) := by
    refine gstart mxd i198 rfl (by simp) ?_; simp (maxSteps := 2000000) only [↓ S2, S2, vIte, ↓reduceIte, Int.reduceNe, Nat.reduceEqDiff, reduceCtorEq, Nat.reduceLeDiff, Nat.reduceAdd, Nat.reduceLT]
    intro r0 hr0
    refine callS.eq (w246 (x.pos, x.name)) ?_
    simp (maxSteps := 2000000) only [↓ S2, S2, vIte, ↓reduceIte, Int.reduceNe, Nat.reduceEqDiff, reduceCtorEq, Nat.reduceLeDiff, Nat.reduceAdd, Nat.reduceLT, XE]
    refine callS.of (o247 x.expr hx _) ?_
    rintro g H' ⟨r, rfl, rfl⟩ hn
    have hn := neH_of hn
    (replace hn := hn; simp only [neH_cons, neH_nil, neA_cons, neA_nil, and_true, true_and] at hn)
    ((try with_reducible refine mkQI ?_); (repeat ((first | (with_reducible refine mkQU ?_) | simp only [brGen]); try simp (maxSteps := 2000000) only [↓ S2, S2, vIte, ↓reduceIte, Int.reduceNe, Nat.reduceEqDiff, reduceCtorEq, Nat.reduceLeDiff, Nat.reduceAdd, Nat.reduceLT, hget_c, hset_c, hdel_c, hn])); (try simp +contextual (disch := omega) only [Z2, hget_c, hset_c, hdel_c, hn]); (repeat' (first | (with_reducible intro h) | (with_reducible refine And.intro (by omega) ?_) | (with_reducible refine exP (by omega) ?_) | (with_reducible apply And.intro))))
    exact ⟨r, r0, _, hn.1.1, rfl, rfl⟩
  refine h0.fr ?_
  rintro g H' ⟨r, r0, u, hne, rfl, rfl⟩
  exact ⟨_, _, FR.perm (H := [(r, 7, x.expr.args.map ExO), (r0, 9, u)]) (L := [(r, 7, x.expr.args.map ExO)]) (by simp [subH, hget, names]), r, rfl, rfl⟩
theorem o133 (xs : List Eqn) (hl : xs.length ≤ 1048576) (hx : ∀ x ∈ xs, smEq x) (H : GH) : GCalls Tryz.prog 133 [QnS xs] H (fun g H' => ∃ r, g = .own r 9 0 xs.length ∧ H' = (r, 9, xs.map QnO) :: H) :=
  toSo1 mxd i133 (fun _ => rfl) (fun _ => rfl) 8 7 (fun x => x.expr.args.map ExO) (fun x r => [I x.pos, T x.name, I x.expr.kind, I x.expr.n, I x.expr.pos, I x.expr.type, T x.expr.sym, T x.expr.name, .own r 7 0 x.expr.args.length]) (fun x => [I x.pos, T x.name, I x.expr.kind, I x.expr.n, I x.expr.pos, I x.expr.type, T x.expr.sym, T x.expr.name, .osl 7 (x.expr.args.map ExO)]) (fun _ _ => rfl) (fun _ _ => by simp) (fun _ _ => rfl) xs hl (by decide) (fun x hm H => o198 x (hx x hm) H) H
end Go.Proofs.YtbdmpkidcpblaaaGreat

