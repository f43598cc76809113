/- The tied card of the law FnExactParseExpr holds. No condition. -/
import Derived.Test.YtkmedfejmndmjaaGreatDoorPex1
set_option linter.unusedSimpArgs false
set_option linter.unusedVariables false
namespace Go.Proofs.YtkmedfejmndmjaaGreatDoor
open Go.Gh
set_option maxRecDepth 20000
set_option linter.unusedSimpArgs false
set_option linter.unusedVariables false
open Go.Lib
theorem w105 (t : Go.Gh.Tok) (w : ByteArray) : Pure Tryz.prog 105 [Tk t, T w] (· = B (isW t w)) := by
  refine gstart mxd i105 rfl (by simp) ?_; simp (maxSteps := 2000000) only [↓ S2, S2, vIte, ↓reduceIte, Int.reduceNe, Nat.reduceEqDiff, reduceCtorEq, Nat.reduceLeDiff, Nat.reduceAdd, Nat.reduceLT]
  ((try with_reducible refine mkQI ?_); (repeat ((first | (with_reducible refine mkQU ?_) | simp only [brGen]); try simp (maxSteps := 4000000) +contextual only [↓ S2, S2, vIte, ↓reduceIte, Int.reduceNe, Nat.reduceEqDiff, reduceCtorEq, Nat.reduceLeDiff, Nat.reduceAdd, Nat.reduceLT, hget_c, hset_c, hdel_c, neN, neA_cons, neA_nil, ])); (try simp +contextual (disch := omega) only [Z2, ]); (repeat' (first | (with_reducible intro h) | (with_reducible refine And.intro (by omega) ?_) | (with_reducible refine exP (by omega) ?_) | (with_reducible apply And.intro))))
  all_goals first | rfl | (simp_all [isW]; done)
set_option maxHeartbeats 4000000 in
theorem w39 {ts : List Go.Gh.Tok} {n : Int} (hk : OkR ts n) (i : Nat) (hi : i ≤ ts.length) (b : Bool) (rp : Nat) (H : GH) (hr : hget H rp = some (4, [SpG ts n i b])) :
    GCalls Tryz.prog 39 [.ptr rp 4 0 0] H (fun g H' => g = ExN (.mk 0 0 0 0 noS noS []) ∧ H' = hset H rp [SpG ts n i true]) := by
  have hl := hk.len
  cases b with
  | true =>
    have hg := hk.ng i
    refine gstart mxd i39 rfl (by simp) ?_; simp (maxSteps := 2000000) only [↓ S2, S2, vIte, ↓reduceIte, Int.reduceNe, Nat.reduceEqDiff, reduceCtorEq, Nat.reduceLeDiff, Nat.reduceAdd, Nat.reduceLT]
    ((try with_reducible refine mkQI ?_); (repeat ((first | (with_reducible refine mkQU ?_) | simp only [brGen]); try simp (maxSteps := 2000000) only [↓ S2, S2, vIte, ↓reduceIte, Int.reduceNe, Nat.reduceEqDiff, reduceCtorEq, Nat.reduceLeDiff, Nat.reduceAdd, Nat.reduceLT, hr, bdO_t, hg, decide_true, decide_false])); (try simp +contextual (disch := omega) only [Z2, hr, bdO_t, hg, decide_true, decide_false]); (repeat' (first | (with_reducible intro h) | (with_reducible refine And.intro (by omega) ?_) | (with_reducible refine exP (by omega) ?_) | (with_reducible apply And.intro))))
    all_goals first | exact ⟨rfl, (hset_self hr).symm⟩ | exact (hset_self hr).symm | rfl
  | false =>
    rcases Nat.lt_or_ge i ts.length with h | h
    · have hL : ¬ ts.length ≤ i := by omega
      have e := offT_lt (n := n) h
      have h2 : ∀ fs, hget (hset H rp fs) rp = some (4, fs) := fun fs => hget_set hr
      show GCalls _ _ _ _ (fun g H' => _ ∧ H' = hset H rp [.agg [TkS ts, I i, I n, I (offT ts n i)]])
      rw [e]
      refine gstart mxd i39 rfl (by simp) ?_; simp (maxSteps := 2000000) only [↓ S2, S2, vIte, ↓reduceIte, Int.reduceNe, Nat.reduceEqDiff, reduceCtorEq, Nat.reduceLeDiff, Nat.reduceAdd, Nat.reduceLT]
      ((try with_reducible refine mkQI ?_); (repeat ((first | (with_reducible refine mkQU ?_) | simp only [brGen]); try simp (maxSteps := 2000000) only [↓ S2, S2, vIte, ↓reduceIte, Int.reduceNe, Nat.reduceEqDiff, reduceCtorEq, Nat.reduceLeDiff, Nat.reduceAdd, Nat.reduceLT, hr, bdO_f, m1lt, m1ge, h, hL, h2, hset_set, decide_true, decide_false])); (try simp +contextual (disch := omega) only [Z2, hr, bdO_f, m1lt, m1ge, h, hL, h2, hset_set, decide_true, decide_false]); (repeat' (first | (with_reducible intro h) | (with_reducible refine And.intro (by omega) ?_) | (with_reducible refine exP (by omega) ?_) | (with_reducible apply And.intro))))
      all_goals first | exact ⟨rfl, rfl⟩ | rfl | trace_state
    · have h' : ¬ i < ts.length := by omega
      have h2 : ∀ fs, hget (hset H rp fs) rp = some (4, fs) := fun fs => hget_set hr
      have e := offT_ge (n := n) h
      show GCalls _ _ _ _ (fun g H' => _ ∧ H' = hset H rp [.agg [TkS ts, I i, I n, I (offT ts n i)]])
      rw [e]
      refine gstart mxd i39 rfl (by simp) ?_; simp (maxSteps := 2000000) only [↓ S2, S2, vIte, ↓reduceIte, Int.reduceNe, Nat.reduceEqDiff, reduceCtorEq, Nat.reduceLeDiff, Nat.reduceAdd, Nat.reduceLT]
      ((try with_reducible refine mkQI ?_); (repeat ((first | (with_reducible refine mkQU ?_) | simp only [brGen]); try simp (maxSteps := 2000000) only [↓ S2, S2, vIte, ↓reduceIte, Int.reduceNe, Nat.reduceEqDiff, reduceCtorEq, Nat.reduceLeDiff, Nat.reduceAdd, Nat.reduceLT, hr, bdO_f, m1lt, m1ge, h, h', h2, hset_set, decide_true, decide_false])); (try simp +contextual (disch := omega) only [Z2, hr, bdO_f, m1lt, m1ge, h, h', h2, hset_set, decide_true, decide_false]); (repeat' (first | (with_reducible intro h) | (with_reducible refine And.intro (by omega) ?_) | (with_reducible refine exP (by omega) ?_) | (with_reducible apply And.intro))))
      all_goals try (exfalso; omega)
      all_goals first | exact ⟨rfl, rfl⟩ | rfl | trace_state
set_option maxHeartbeats 4000000 in
theorem w73 {ts : List Go.Gh.Tok} {n : Int} (hk : OkR ts n) (i : Nat) (hi : i ≤ ts.length) (b : Bool) (w : ByteArray) (rp : Nat) (H : GH) (hr : hget H rp = some (4, [SpG ts n i b])) :
    GCalls Tryz.prog 73 [.ptr rp 4 0 0, T w] H (fun g H' => g = B (!b && sees ts i w) ∧ H' = H) := by
  have hl := hk.len
  cases b with
  | true =>
    have hg := hk.ng i
    refine gstart mxd i73 rfl (by simp) ?_; simp (maxSteps := 2000000) only [↓ S2, S2, vIte, ↓reduceIte, Int.reduceNe, Nat.reduceEqDiff, reduceCtorEq, Nat.reduceLeDiff, Nat.reduceAdd, Nat.reduceLT]
    ((try with_reducible refine mkQI ?_); (repeat ((first | (with_reducible refine mkQU ?_) | simp only [brGen]); try simp (maxSteps := 2000000) only [↓ S2, S2, vIte, ↓reduceIte, Int.reduceNe, Nat.reduceEqDiff, reduceCtorEq, Nat.reduceLeDiff, Nat.reduceAdd, Nat.reduceLT, hr, bdO_t, hg, decide_true, decide_false])); (try simp +contextual (disch := omega) only [Z2, hr, bdO_t, hg, decide_true, decide_false]); (repeat' (first | (with_reducible intro h) | (with_reducible refine And.intro (by omega) ?_) | (with_reducible refine exP (by omega) ?_) | (with_reducible apply And.intro))))
    all_goals first | rfl | exact ⟨rfl, rfl⟩ | trace_state
  | false =>
    rcases Nat.lt_or_ge i ts.length with h | h
    · have e : sees ts i w = isW ts[i] w := by unfold sees; rw [decide_eq_true h, getD_lt h]; rfl
      have hL : ¬ ts.length ≤ i := by omega
      rw [e]
      refine gstart mxd i73 rfl (by simp) ?_; simp (maxSteps := 2000000) only [↓ S2, S2, vIte, ↓reduceIte, Int.reduceNe, Nat.reduceEqDiff, reduceCtorEq, Nat.reduceLeDiff, Nat.reduceAdd, Nat.reduceLT]
      ((try with_reducible refine mkQI ?_); (repeat ((first | (with_reducible refine mkQU ?_) | simp only [brGen]); try simp (maxSteps := 2000000) only [↓ S2, S2, vIte, ↓reduceIte, Int.reduceNe, Nat.reduceEqDiff, reduceCtorEq, Nat.reduceLeDiff, Nat.reduceAdd, Nat.reduceLT, hr, bdO_f, m1lt, m1ge, h, hL, decide_true, decide_false])); (try simp +contextual (disch := omega) only [Z2, hr, bdO_f, m1lt, m1ge, h, hL, decide_true, decide_false]); (repeat' (first | (with_reducible intro h) | (with_reducible refine And.intro (by omega) ?_) | (with_reducible refine exP (by omega) ?_) | (with_reducible apply And.intro))))
      refine callS.eq (w105 _ _) ?_
      ((try with_reducible refine mkQI ?_); (repeat ((first | (with_reducible refine mkQU ?_) | simp only [brGen]); try simp (maxSteps := 2000000) only [↓ S2, S2, vIte, ↓reduceIte, Int.reduceNe, Nat.reduceEqDiff, reduceCtorEq, Nat.reduceLeDiff, Nat.reduceAdd, Nat.reduceLT, ])); (try simp +contextual (disch := omega) only [Z2, ]); (repeat' (first | (with_reducible intro h) | (with_reducible refine And.intro (by omega) ?_) | (with_reducible refine exP (by omega) ?_) | (with_reducible apply And.intro))))
      all_goals first | rfl | exact ⟨rfl, rfl⟩ | trace_state
    · have e : sees ts i w = false := by unfold sees; rw [decide_eq_false (by omega)]; rfl
      have h' : ¬ i < ts.length := by omega
      rw [e]
      refine gstart mxd i73 rfl (by simp) ?_; simp (maxSteps := 2000000) only [↓ S2, S2, vIte, ↓reduceIte, Int.reduceNe, Nat.reduceEqDiff, reduceCtorEq, Nat.reduceLeDiff, Nat.reduceAdd, Nat.reduceLT]
      ((try with_reducible refine mkQI ?_); (repeat ((first | (with_reducible refine mkQU ?_) | simp only [brGen]); try simp (maxSteps := 2000000) only [↓ S2, S2, vIte, ↓reduceIte, Int.reduceNe, Nat.reduceEqDiff, reduceCtorEq, Nat.reduceLeDiff, Nat.reduceAdd, Nat.reduceLT, hr, bdO_f, m1lt, m1ge, h, h', decide_true, decide_false])); (try simp +contextual (disch := omega) only [Z2, hr, bdO_f, m1lt, m1ge, h, h', decide_true, decide_false]); (repeat' (first | (with_reducible intro h) | (with_reducible refine And.intro (by omega) ?_) | (with_reducible refine exP (by omega) ?_) | (with_reducible apply And.intro))))
      all_goals try (exfalso; omega)
      all_goals first | rfl | exact ⟨rfl, rfl⟩ | trace_state
set_option maxHeartbeats 4000000 in
theorem w75 {ts : List Go.Gh.Tok} {n : Int} (hk : OkR ts n) (i : Nat) (hi : i ≤ ts.length) (b : Bool) (w : ByteArray) (rp : Nat) (H : GH) (hr : hget H rp = some (4, [SpG ts n i b])) :
    GCalls Tryz.prog 75 [.ptr rp 4 0 0, T w] H (fun _ H' => H' = hset H rp [SpG ts n (frm b (fun i => takeW ts i w) i).at (frm b (fun i => takeW ts i w) i).err]) := by
  have hl := hk.len
  have h1 := w73 hk i hi b w rp H hr
  have h3 := w39 hk i hi b rp H hr
  have h2 : ∀ fs, hget (hset H rp fs) rp = some (4, fs) := fun fs => hget_set hr
  cases b with
  | true =>
    refine gstart mxd i75 rfl (by simp) ?_; simp (maxSteps := 2000000) only [↓ S2, S2, vIte, ↓reduceIte, Int.reduceNe, Nat.reduceEqDiff, reduceCtorEq, Nat.reduceLeDiff, Nat.reduceAdd, Nat.reduceLT]
    ((try with_reducible refine mkQI ?_); (repeat ((first | (with_reducible refine mkQU ?_) | simp only [brGen]); try simp (maxSteps := 2000000) only [↓ S2, S2, vIte, ↓reduceIte, Int.reduceNe, Nat.reduceEqDiff, reduceCtorEq, Nat.reduceLeDiff, Nat.reduceAdd, Nat.reduceLT, ])); (try simp +contextual (disch := omega) only [Z2, ]); (repeat' (first | (with_reducible intro h) | (with_reducible refine And.intro (by omega) ?_) | (with_reducible refine exP (by omega) ?_) | (with_reducible apply And.intro))))
    refine callS.of h1 ?_
    rintro _ _ ⟨rfl, rfl⟩ _
    ((try with_reducible refine mkQI ?_); (repeat ((first | (with_reducible refine mkQU ?_) | simp only [brGen]); try simp (maxSteps := 2000000) only [↓ S2, S2, vIte, ↓reduceIte, Int.reduceNe, Nat.reduceEqDiff, reduceCtorEq, Nat.reduceLeDiff, Nat.reduceAdd, Nat.reduceLT, Bool.not_true, Bool.false_and, Bool.not_false])); (try simp +contextual (disch := omega) only [Z2, Bool.not_true, Bool.false_and, Bool.not_false]); (repeat' (first | (with_reducible intro h) | (with_reducible refine And.intro (by omega) ?_) | (with_reducible refine exP (by omega) ?_) | (with_reducible apply And.intro))))
    refine callS.of h3 ?_
    rintro _ _ ⟨rfl, rfl⟩ _
    ((try with_reducible refine mkQI ?_); (repeat ((first | (with_reducible refine mkQU ?_) | simp only [brGen]); try simp (maxSteps := 2000000) only [↓ S2, S2, vIte, ↓reduceIte, Int.reduceNe, Nat.reduceEqDiff, reduceCtorEq, Nat.reduceLeDiff, Nat.reduceAdd, Nat.reduceLT, h2])); (try simp +contextual (disch := omega) only [Z2, h2]); (repeat' (first | (with_reducible intro h) | (with_reducible refine And.intro (by omega) ?_) | (with_reducible refine exP (by omega) ?_) | (with_reducible apply And.intro))))
    all_goals rfl
  | false =>
    cases hq : sees ts i w with
    | true =>
      rw [hq] at h1
      rw [frm_f, take_t hq]
      refine gstart mxd i75 rfl (by simp) ?_; simp (maxSteps := 2000000) only [↓ S2, S2, vIte, ↓reduceIte, Int.reduceNe, Nat.reduceEqDiff, reduceCtorEq, Nat.reduceLeDiff, Nat.reduceAdd, Nat.reduceLT]
      ((try with_reducible refine mkQI ?_); (repeat ((first | (with_reducible refine mkQU ?_) | simp only [brGen]); try simp (maxSteps := 2000000) only [↓ S2, S2, vIte, ↓reduceIte, Int.reduceNe, Nat.reduceEqDiff, reduceCtorEq, Nat.reduceLeDiff, Nat.reduceAdd, Nat.reduceLT, ])); (try simp +contextual (disch := omega) only [Z2, ]); (repeat' (first | (with_reducible intro h) | (with_reducible refine And.intro (by omega) ?_) | (with_reducible refine exP (by omega) ?_) | (with_reducible apply And.intro))))
      refine callS.of h1 ?_
      rintro _ _ ⟨rfl, rfl⟩ _
      ((try with_reducible refine mkQI ?_); (repeat ((first | (with_reducible refine mkQU ?_) | simp only [brGen]); try simp (maxSteps := 2000000) only [↓ S2, S2, vIte, ↓reduceIte, Int.reduceNe, Nat.reduceEqDiff, reduceCtorEq, Nat.reduceLeDiff, Nat.reduceAdd, Nat.reduceLT, hr, Bool.not_false, Bool.true_and, Bool.not_true])); (try simp +contextual (disch := omega) only [Z2, hr, Bool.not_false, Bool.true_and, Bool.not_true]); (repeat' (first | (with_reducible intro h) | (with_reducible refine And.intro (by omega) ?_) | (with_reducible refine exP (by omega) ?_) | (with_reducible apply And.intro))))
      all_goals rfl
    | false =>
      rw [hq] at h1
      rw [frm_f, take_f hq]
      refine gstart mxd i75 rfl (by simp) ?_; simp (maxSteps := 2000000) only [↓ S2, S2, vIte, ↓reduceIte, Int.reduceNe, Nat.reduceEqDiff, reduceCtorEq, Nat.reduceLeDiff, Nat.reduceAdd, Nat.reduceLT]
      ((try with_reducible refine mkQI ?_); (repeat ((first | (with_reducible refine mkQU ?_) | simp only [brGen]); try simp (maxSteps := 2000000) only [↓ S2, S2, vIte, ↓reduceIte, Int.reduceNe, Nat.reduceEqDiff, reduceCtorEq, Nat.reduceLeDiff, Nat.reduceAdd, Nat.reduceLT, ])); (try simp +contextual (disch := omega) only [Z2, ]); (repeat' (first | (with_reducible intro h) | (with_reducible refine And.intro (by omega) ?_) | (with_reducible refine exP (by omega) ?_) | (with_reducible apply And.intro))))
      refine callS.of h1 ?_
      rintro _ _ ⟨rfl, rfl⟩ _
      ((try with_reducible refine mkQI ?_); (repeat ((first | (with_reducible refine mkQU ?_) | simp only [brGen]); try simp (maxSteps := 2000000) only [↓ S2, S2, vIte, ↓reduceIte, Int.reduceNe, Nat.reduceEqDiff, reduceCtorEq, Nat.reduceLeDiff, Nat.reduceAdd, Nat.reduceLT, Bool.not_false, Bool.and_false])); (try simp +contextual (disch := omega) only [Z2, Bool.not_false, Bool.and_false]); (repeat' (first | (with_reducible intro h) | (with_reducible refine And.intro (by omega) ?_) | (with_reducible refine exP (by omega) ?_) | (with_reducible apply And.intro))))
      refine callS.of h3 ?_
      rintro _ _ ⟨rfl, rfl⟩ _
      ((try with_reducible refine mkQI ?_); (repeat ((first | (with_reducible refine mkQU ?_) | simp only [brGen]); try simp (maxSteps := 2000000) only [↓ S2, S2, vIte, ↓reduceIte, Int.reduceNe, Nat.reduceEqDiff, reduceCtorEq, Nat.reduceLeDiff, Nat.reduceAdd, Nat.reduceLT, h2])); (try simp +contextual (disch := omega) only [Z2, h2]); (repeat' (first | (with_reducible intro h) | (with_reducible refine And.intro (by omega) ?_) | (with_reducible refine exP (by omega) ?_) | (with_reducible apply And.intro))))
      all_goals rfl
theorem w135 (s : ByteArray) : Pure Tryz.prog 135 [T s] (· = I (funO s)) := by
  refine gstart mxd i135 rfl (by simp) ?_; simp (maxSteps := 2000000) only [↓ S2, S2, vIte, ↓reduceIte, Int.reduceNe, Nat.reduceEqDiff, reduceCtorEq, Nat.reduceLeDiff, Nat.reduceAdd, Nat.reduceLT]
  ((try with_reducible refine mkQI ?_); (repeat ((first | (with_reducible refine mkQU ?_) | simp only [brGen]); try simp (maxSteps := 4000000) +contextual only [↓ S2, S2, vIte, ↓reduceIte, Int.reduceNe, Nat.reduceEqDiff, reduceCtorEq, Nat.reduceLeDiff, Nat.reduceAdd, Nat.reduceLT, hget_c, hset_c, hdel_c, neN, neA_cons, neA_nil, ])); (try simp +contextual (disch := omega) only [Z2, ]); (repeat' (first | (with_reducible intro h) | (with_reducible refine And.intro (by omega) ?_) | (with_reducible refine exP (by omega) ?_) | (with_reducible apply And.intro))))
  all_goals first | (subst_vars; rfl) | (unfold funO wMax wMin wHas wWith; simp [*]; done) | trace_state
theorem v130 (n k : Int) : Pure Tryz.prog 130 [I n, I k] (· = ExN (conE n k)) := by
  refine gstart mxd i130 rfl (by simp) ?_; simp (maxSteps := 2000000) only [↓ S2, S2, vIte, ↓reduceIte, Int.reduceNe, Nat.reduceEqDiff, reduceCtorEq, Nat.reduceLeDiff, Nat.reduceAdd, Nat.reduceLT]
  ((try with_reducible refine mkQI ?_); (repeat ((first | (with_reducible refine mkQU ?_) | simp only [brGen]); try simp (maxSteps := 4000000) +contextual only [↓ S2, S2, vIte, ↓reduceIte, Int.reduceNe, Nat.reduceEqDiff, reduceCtorEq, Nat.reduceLeDiff, Nat.reduceAdd, Nat.reduceLT, hget_c, hset_c, hdel_c, neN, neA_cons, neA_nil, ])); (try simp +contextual (disch := omega) only [Z2, ]); (repeat' (first | (with_reducible intro h) | (with_reducible refine And.intro (by omega) ?_) | (with_reducible refine exP (by omega) ?_) | (with_reducible apply And.intro))))
  all_goals first | rfl | trace_state
theorem w129 {ts : List Go.Gh.Tok} {n : Int} (hk : OkR ts n) (i : Nat) (hi : i < ts.length) (e : Exp) (rp : Nat) (H : GH) (hr : hget H rp = some (4, [SpG ts n i false])) :
    GCalls Tryz.prog 129 [.ptr rp 4 0 0, ExN e] H (fun g H' => g = ExN e ∧ H' = hset H rp [SpG ts n (i + 1) false]) := by
  have hl := hk.len
  refine gstart mxd i129 rfl (by simp) ?_; simp (maxSteps := 2000000) only [↓ S2, S2, vIte, ↓reduceIte, Int.reduceNe, Nat.reduceEqDiff, reduceCtorEq, Nat.reduceLeDiff, Nat.reduceAdd, Nat.reduceLT]
  ((try with_reducible refine mkQI ?_); (repeat ((first | (with_reducible refine mkQU ?_) | simp only [brGen]); try simp (maxSteps := 2000000) only [↓ S2, S2, vIte, ↓reduceIte, Int.reduceNe, Nat.reduceEqDiff, reduceCtorEq, Nat.reduceLeDiff, Nat.reduceAdd, Nat.reduceLT, hr, bdO_f])); (try simp +contextual (disch := omega) only [Z2, hr, bdO_f]); (repeat' (first | (with_reducible intro h) | (with_reducible refine And.intro (by omega) ?_) | (with_reducible refine exP (by omega) ?_) | (with_reducible apply And.intro))))
  all_goals first | rfl | exact ⟨rfl, rfl⟩ | trace_state
end Go.Proofs.YtkmedfejmndmjaaGreatDoor

namespace Go.Proofs.YtkmedfejmndmjaaGreatDoor
open Go.Gh
set_option maxRecDepth 20000
set_option linter.unusedSimpArgs false
set_option linter.unusedVariables false
open Go.Lib
set_option maxHeartbeats 4000000 in
theorem w150 {ts : List Go.Gh.Tok} {n : Int} (hK : OkR ts n) (i : Nat) (hi : i ≤ ts.length) (b : Bool) (lo hh : Int) (rp : Nat) (H : GH) (hr : hget H rp = some (4, [SpG ts n i b])) :
    GCalls Tryz.prog 150 [.ptr rp 4 0 0, I lo, I hh] H (fun g H' => g = I (PR.val 0 (frm b (fun i => numP ts i lo hh) i)) ∧ H' = hset H rp [SpG ts n (frm b (fun i => numP ts i lo hh) i).at (frm b (fun i => numP ts i lo hh) i).err]) := by
  have hl := hK.len
  have h3 := w39 hK i hi b rp H hr
  have h2 : ∀ fs, hget (hset H rp fs) rp = some (4, fs) := fun fs => hget_set hr
  cases b with
  | true =>
    have hg := hK.ge i
    refine gstart mxd i150 rfl (by simp) ?_; simp (maxSteps := 2000000) only [↓ S2, S2, vIte, ↓reduceIte, Int.reduceNe, Nat.reduceEqDiff, reduceCtorEq, Nat.reduceLeDiff, Nat.reduceAdd, Nat.reduceLT]
    ((try with_reducible refine mkQI ?_); (repeat ((first | (with_reducible refine mkQU ?_) | simp only [brGen]); try simp (maxSteps := 2000000) only [↓ S2, S2, vIte, ↓reduceIte, Int.reduceNe, Nat.reduceEqDiff, reduceCtorEq, Nat.reduceLeDiff, Nat.reduceAdd, Nat.reduceLT, hr, bdO_t, hg, decide_true, decide_false])); (try simp +contextual (disch := omega) only [Z2, hr, bdO_t, hg, decide_true, decide_false]); (repeat' (first | (with_reducible intro h) | (with_reducible refine And.intro (by omega) ?_) | (with_reducible refine exP (by omega) ?_) | (with_reducible apply And.intro))))
    all_goals try (exfalso; omega)
    refine callS.of h3 ?_
    rintro _ _ ⟨rfl, rfl⟩ _
    ((try with_reducible refine mkQI ?_); (repeat ((first | (with_reducible refine mkQU ?_) | simp only [brGen]); try simp (maxSteps := 2000000) only [↓ S2, S2, vIte, ↓reduceIte, Int.reduceNe, Nat.reduceEqDiff, reduceCtorEq, Nat.reduceLeDiff, Nat.reduceAdd, Nat.reduceLT, ])); (try simp +contextual (disch := omega) only [Z2, ]); (repeat' (first | (with_reducible intro h) | (with_reducible refine And.intro (by omega) ?_) | (with_reducible refine exP (by omega) ?_) | (with_reducible apply And.intro))))
    all_goals first | rfl | exact ⟨rfl, rfl⟩
  | false =>
    rw [frm_f]
    rcases Nat.lt_or_ge i ts.length with h | hG
    · have hL : ¬ ts.length ≤ i := by omega
      have hx1 : ((i : Int) + 1 - 1) = (i : Int) := by omega
      by_cases hk : ts[i].kind = 2
      · have hkk : ((ts[i].kind = 2) = True) := eq_true hk
        by_cases hw : lo ≤ ts[i].num ∧ ts[i].num ≤ hh
        · have e : numP ts i lo hh = .ok ts[i].num (i + 1) := by unfold numP; rw [getD_lt h, if_pos ⟨h, hk, hw⟩]
          have hwd := decide_eq_true hw
          rw [e]
          refine gstart mxd i150 rfl (by simp) ?_; simp (maxSteps := 2000000) only [↓ S2, S2, vIte, ↓reduceIte, Int.reduceNe, Nat.reduceEqDiff, reduceCtorEq, Nat.reduceLeDiff, Nat.reduceAdd, Nat.reduceLT]
          ((try with_reducible refine mkQI ?_); (repeat ((first | (with_reducible refine mkQU ?_) | simp only [brGen]); try simp (maxSteps := 2000000) only [↓ S2, S2, vIte, ↓reduceIte, Int.reduceNe, Nat.reduceEqDiff, reduceCtorEq, Nat.reduceLeDiff, Nat.reduceAdd, Nat.reduceLT, hr, bdO_f, m1lt, m1ge, h, hL, hkk, decide_true, decide_false])); (try simp +contextual (disch := omega) only [Z2, hr, bdO_f, m1lt, m1ge, h, hL, hkk, decide_true, decide_false]); (repeat' (first | (with_reducible intro h) | (with_reducible refine And.intro (by omega) ?_) | (with_reducible refine exP (by omega) ?_) | (with_reducible apply And.intro))))
          refine callS.eq (w93 _ _ _) ?_
          ((try with_reducible refine mkQI ?_); (repeat ((first | (with_reducible refine mkQU ?_) | simp only [brGen]); try simp (maxSteps := 2000000) only [↓ S2, S2, vIte, ↓reduceIte, Int.reduceNe, Nat.reduceEqDiff, reduceCtorEq, Nat.reduceLeDiff, Nat.reduceAdd, Nat.reduceLT, hwd, hr, h, h2, bdO_f, m1lt, m1ge, hset_set, hx1])); (try simp +contextual (disch := omega) only [Z2, hwd, hr, h, h2, bdO_f, m1lt, m1ge, hset_set, hx1]); (repeat' (first | (with_reducible intro h) | (with_reducible refine And.intro (by omega) ?_) | (with_reducible refine exP (by omega) ?_) | (with_reducible apply And.intro))))
          all_goals first | rfl | exact ⟨rfl, rfl⟩ | trace_state
        · have e : numP ts i lo hh = .bad i := by unfold numP; rw [getD_lt h, if_neg (fun hc => hw ⟨hc.2.2.1, hc.2.2.2⟩)]
          have hwd := decide_eq_false hw
          rw [e]
          refine gstart mxd i150 rfl (by simp) ?_; simp (maxSteps := 2000000) only [↓ S2, S2, vIte, ↓reduceIte, Int.reduceNe, Nat.reduceEqDiff, reduceCtorEq, Nat.reduceLeDiff, Nat.reduceAdd, Nat.reduceLT]
          ((try with_reducible refine mkQI ?_); (repeat ((first | (with_reducible refine mkQU ?_) | simp only [brGen]); try simp (maxSteps := 2000000) only [↓ S2, S2, vIte, ↓reduceIte, Int.reduceNe, Nat.reduceEqDiff, reduceCtorEq, Nat.reduceLeDiff, Nat.reduceAdd, Nat.reduceLT, hr, bdO_f, m1lt, m1ge, h, hL, hkk, decide_true, decide_false])); (try simp +contextual (disch := omega) only [Z2, hr, bdO_f, m1lt, m1ge, h, hL, hkk, decide_true, decide_false]); (repeat' (first | (with_reducible intro h) | (with_reducible refine And.intro (by omega) ?_) | (with_reducible refine exP (by omega) ?_) | (with_reducible apply And.intro))))
          refine callS.eq (w93 _ _ _) ?_
          ((try with_reducible refine mkQI ?_); (repeat ((first | (with_reducible refine mkQU ?_) | simp only [brGen]); try simp (maxSteps := 2000000) only [↓ S2, S2, vIte, ↓reduceIte, Int.reduceNe, Nat.reduceEqDiff, reduceCtorEq, Nat.reduceLeDiff, Nat.reduceAdd, Nat.reduceLT, hwd])); (try simp +contextual (disch := omega) only [Z2, hwd]); (repeat' (first | (with_reducible intro h) | (with_reducible refine And.intro (by omega) ?_) | (with_reducible refine exP (by omega) ?_) | (with_reducible apply And.intro))))
          all_goals try (exfalso; omega)
          refine callS.of h3 ?_
          rintro _ _ ⟨rfl, rfl⟩ _
          ((try with_reducible refine mkQI ?_); (repeat ((first | (with_reducible refine mkQU ?_) | simp only [brGen]); try simp (maxSteps := 2000000) only [↓ S2, S2, vIte, ↓reduceIte, Int.reduceNe, Nat.reduceEqDiff, reduceCtorEq, Nat.reduceLeDiff, Nat.reduceAdd, Nat.reduceLT, ])); (try simp +contextual (disch := omega) only [Z2, ]); (repeat' (first | (with_reducible intro h) | (with_reducible refine And.intro (by omega) ?_) | (with_reducible refine exP (by omega) ?_) | (with_reducible apply And.intro))))
          all_goals first | rfl | exact ⟨rfl, rfl⟩ | trace_state
      · have e : numP ts i lo hh = .bad i := by unfold numP; rw [getD_lt h, if_neg (fun hc => hk hc.2.1)]
        have hkk : ((ts[i].kind = 2) = False) := eq_false hk
        rw [e]
        refine gstart mxd i150 rfl (by simp) ?_; simp (maxSteps := 2000000) only [↓ S2, S2, vIte, ↓reduceIte, Int.reduceNe, Nat.reduceEqDiff, reduceCtorEq, Nat.reduceLeDiff, Nat.reduceAdd, Nat.reduceLT]
        ((try with_reducible refine mkQI ?_); (repeat ((first | (with_reducible refine mkQU ?_) | simp only [brGen]); try simp (maxSteps := 2000000) only [↓ S2, S2, vIte, ↓reduceIte, Int.reduceNe, Nat.reduceEqDiff, reduceCtorEq, Nat.reduceLeDiff, Nat.reduceAdd, Nat.reduceLT, hr, bdO_f, m1lt, m1ge, h, hL, hkk, decide_true, decide_false])); (try simp +contextual (disch := omega) only [Z2, hr, bdO_f, m1lt, m1ge, h, hL, hkk, decide_true, decide_false]); (repeat' (first | (with_reducible intro h) | (with_reducible refine And.intro (by omega) ?_) | (with_reducible refine exP (by omega) ?_) | (with_reducible apply And.intro))))
        all_goals try (exfalso; omega)
        refine callS.of h3 ?_
        rintro _ _ ⟨rfl, rfl⟩ _
        ((try with_reducible refine mkQI ?_); (repeat ((first | (with_reducible refine mkQU ?_) | simp only [brGen]); try simp (maxSteps := 2000000) only [↓ S2, S2, vIte, ↓reduceIte, Int.reduceNe, Nat.reduceEqDiff, reduceCtorEq, Nat.reduceLeDiff, Nat.reduceAdd, Nat.reduceLT, ])); (try simp +contextual (disch := omega) only [Z2, ]); (repeat' (first | (with_reducible intro h) | (with_reducible refine And.intro (by omega) ?_) | (with_reducible refine exP (by omega) ?_) | (with_reducible apply And.intro))))
        all_goals first | rfl | exact ⟨rfl, rfl⟩ | trace_state
    · have e : numP ts i lo hh = .bad i := by unfold numP; rw [if_neg (fun hc => by omega)]
      rw [e]
      refine gstart mxd i150 rfl (by simp) ?_; simp (maxSteps := 2000000) only [↓ S2, S2, vIte, ↓reduceIte, Int.reduceNe, Nat.reduceEqDiff, reduceCtorEq, Nat.reduceLeDiff, Nat.reduceAdd, Nat.reduceLT]
      ((try with_reducible refine mkQI ?_); (repeat ((first | (with_reducible refine mkQU ?_) | simp only [brGen]); try simp (maxSteps := 2000000) only [↓ S2, S2, vIte, ↓reduceIte, Int.reduceNe, Nat.reduceEqDiff, reduceCtorEq, Nat.reduceLeDiff, Nat.reduceAdd, Nat.reduceLT, hr, bdO_f, m1lt, m1ge, hG, decide_true])); (try simp +contextual (disch := omega) only [Z2, hr, bdO_f, m1lt, m1ge, hG, decide_true]); (repeat' (first | (with_reducible intro h) | (with_reducible refine And.intro (by omega) ?_) | (with_reducible refine exP (by omega) ?_) | (with_reducible apply And.intro))))
      all_goals try (exfalso; omega)
      refine callS.of h3 ?_
      rintro _ _ ⟨rfl, rfl⟩ _
      ((try with_reducible refine mkQI ?_); (repeat ((first | (with_reducible refine mkQU ?_) | simp only [brGen]); try simp (maxSteps := 2000000) only [↓ S2, S2, vIte, ↓reduceIte, Int.reduceNe, Nat.reduceEqDiff, reduceCtorEq, Nat.reduceLeDiff, Nat.reduceAdd, Nat.reduceLT, ])); (try simp +contextual (disch := omega) only [Z2, ]); (repeat' (first | (with_reducible intro h) | (with_reducible refine And.intro (by omega) ?_) | (with_reducible refine exP (by omega) ?_) | (with_reducible apply And.intro))))
      all_goals first | rfl | exact ⟨rfl, rfl⟩ | trace_state
set_option maxHeartbeats 4000000 in
theorem w151 {ts : List Go.Gh.Tok} {n : Int} (hK : OkR ts n) (i : Nat) (hi : i ≤ ts.length) (b : Bool) (rp : Nat) (H : GH) (hr : hget H rp = some (4, [SpG ts n i b])) :
    GCalls Tryz.prog 151 [.ptr rp 4 0 0] H (fun g H' => g = T (PR.val noS (frm b (nameP ts) i)) ∧ H' = hset H rp [SpG ts n (frm b (nameP ts) i).at (frm b (nameP ts) i).err]) := by
  have hl := hK.len
  have ht := hK.txt
  have h3 := w39 hK i hi b rp H hr
  have h2 : ∀ fs, hget (hset H rp fs) rp = some (4, fs) := fun fs => hget_set hr
  cases b with
  | true =>
    have hg := hK.ge i
    refine gstart mxd i151 rfl (by simp) ?_; simp (maxSteps := 2000000) only [↓ S2, S2, vIte, ↓reduceIte, Int.reduceNe, Nat.reduceEqDiff, reduceCtorEq, Nat.reduceLeDiff, Nat.reduceAdd, Nat.reduceLT]
    ((try with_reducible refine mkQI ?_); (repeat ((first | (with_reducible refine mkQU ?_) | simp only [brGen]); try simp (maxSteps := 2000000) only [↓ S2, S2, vIte, ↓reduceIte, Int.reduceNe, Nat.reduceEqDiff, reduceCtorEq, Nat.reduceLeDiff, Nat.reduceAdd, Nat.reduceLT, hr, bdO_t, hg, decide_true, decide_false])); (try simp +contextual (disch := omega) only [Z2, hr, bdO_t, hg, decide_true, decide_false]); (repeat' (first | (with_reducible intro h) | (with_reducible refine And.intro (by omega) ?_) | (with_reducible refine exP (by omega) ?_) | (with_reducible apply And.intro))))
    all_goals try (exfalso; omega)
    refine callS.of h3 ?_
    rintro _ _ ⟨rfl, rfl⟩ _
    ((try with_reducible refine mkQI ?_); (repeat ((first | (with_reducible refine mkQU ?_) | simp only [brGen]); try simp (maxSteps := 2000000) only [↓ S2, S2, vIte, ↓reduceIte, Int.reduceNe, Nat.reduceEqDiff, reduceCtorEq, Nat.reduceLeDiff, Nat.reduceAdd, Nat.reduceLT, ])); (try simp +contextual (disch := omega) only [Z2, ]); (repeat' (first | (with_reducible intro h) | (with_reducible refine And.intro (by omega) ?_) | (with_reducible refine exP (by omega) ?_) | (with_reducible apply And.intro))))
    all_goals first | rfl | exact ⟨rfl, rfl⟩
  | false =>
    rw [frm_f]
    rcases Nat.lt_or_ge i ts.length with h | hG
    · have hL : ¬ ts.length ≤ i := by omega
      have hx1 : ((i : Int) + 1 - 1) = (i : Int) := by omega
      have hsz := (ht _ (List.getElem_mem h)).2
      have hm : ts[i].text.size ≤ maxLen := by simp only [maxLen, size_chars]; omega
      by_cases hk : ts[i].kind = 1
      · have hkk : ((ts[i].kind = 1) = True) := eq_true hk
        by_cases hw : nameV ts[i].text = true
        · have e : nameP ts i = .ok ts[i].text (i + 1) := by unfold nameP; rw [getD_lt h, if_pos ⟨h, hk, hw⟩]
          rw [e]
          refine gstart mxd i151 rfl (by simp) ?_; simp (maxSteps := 2000000) only [↓ S2, S2, vIte, ↓reduceIte, Int.reduceNe, Nat.reduceEqDiff, reduceCtorEq, Nat.reduceLeDiff, Nat.reduceAdd, Nat.reduceLT]
          ((try with_reducible refine mkQI ?_); (repeat ((first | (with_reducible refine mkQU ?_) | simp only [brGen]); try simp (maxSteps := 2000000) only [↓ S2, S2, vIte, ↓reduceIte, Int.reduceNe, Nat.reduceEqDiff, reduceCtorEq, Nat.reduceLeDiff, Nat.reduceAdd, Nat.reduceLT, hr, bdO_f, m1lt, m1ge, h, hL, hkk, decide_true, decide_false])); (try simp +contextual (disch := omega) only [Z2, hr, bdO_f, m1lt, m1ge, h, hL, hkk, decide_true, decide_false]); (repeat' (first | (with_reducible intro h) | (with_reducible refine And.intro (by omega) ?_) | (with_reducible refine exP (by omega) ?_) | (with_reducible apply And.intro))))
          refine callS.eq (w95 _ hm) ?_
          ((try with_reducible refine mkQI ?_); (repeat ((first | (with_reducible refine mkQU ?_) | simp only [brGen]); try simp (maxSteps := 2000000) only [↓ S2, S2, vIte, ↓reduceIte, Int.reduceNe, Nat.reduceEqDiff, reduceCtorEq, Nat.reduceLeDiff, Nat.reduceAdd, Nat.reduceLT, hw, hr, h, h2, bdO_f, m1lt, m1ge, hset_set, hx1])); (try simp +contextual (disch := omega) only [Z2, hw, hr, h, h2, bdO_f, m1lt, m1ge, hset_set, hx1]); (repeat' (first | (with_reducible intro h) | (with_reducible refine And.intro (by omega) ?_) | (with_reducible refine exP (by omega) ?_) | (with_reducible apply And.intro))))
          all_goals first | rfl | exact ⟨rfl, rfl⟩ | trace_state
        · have hw' : nameV ts[i].text = false := by simpa using hw
          have e : nameP ts i = .bad i := by unfold nameP; rw [getD_lt h, if_neg (fun hc => hw hc.2.2)]
          rw [e]
          refine gstart mxd i151 rfl (by simp) ?_; simp (maxSteps := 2000000) only [↓ S2, S2, vIte, ↓reduceIte, Int.reduceNe, Nat.reduceEqDiff, reduceCtorEq, Nat.reduceLeDiff, Nat.reduceAdd, Nat.reduceLT]
          ((try with_reducible refine mkQI ?_); (repeat ((first | (with_reducible refine mkQU ?_) | simp only [brGen]); try simp (maxSteps := 2000000) only [↓ S2, S2, vIte, ↓reduceIte, Int.reduceNe, Nat.reduceEqDiff, reduceCtorEq, Nat.reduceLeDiff, Nat.reduceAdd, Nat.reduceLT, hr, bdO_f, m1lt, m1ge, h, hL, hkk, decide_true, decide_false])); (try simp +contextual (disch := omega) only [Z2, hr, bdO_f, m1lt, m1ge, h, hL, hkk, decide_true, decide_false]); (repeat' (first | (with_reducible intro h) | (with_reducible refine And.intro (by omega) ?_) | (with_reducible refine exP (by omega) ?_) | (with_reducible apply And.intro))))
          refine callS.eq (w95 _ hm) ?_
          ((try with_reducible refine mkQI ?_); (repeat ((first | (with_reducible refine mkQU ?_) | simp only [brGen]); try simp (maxSteps := 2000000) only [↓ S2, S2, vIte, ↓reduceIte, Int.reduceNe, Nat.reduceEqDiff, reduceCtorEq, Nat.reduceLeDiff, Nat.reduceAdd, Nat.reduceLT, hw'])); (try simp +contextual (disch := omega) only [Z2, hw']); (repeat' (first | (with_reducible intro h) | (with_reducible refine And.intro (by omega) ?_) | (with_reducible refine exP (by omega) ?_) | (with_reducible apply And.intro))))
          all_goals try (exfalso; omega)
          refine callS.of h3 ?_
          rintro _ _ ⟨rfl, rfl⟩ _
          ((try with_reducible refine mkQI ?_); (repeat ((first | (with_reducible refine mkQU ?_) | simp only [brGen]); try simp (maxSteps := 2000000) only [↓ S2, S2, vIte, ↓reduceIte, Int.reduceNe, Nat.reduceEqDiff, reduceCtorEq, Nat.reduceLeDiff, Nat.reduceAdd, Nat.reduceLT, ])); (try simp +contextual (disch := omega) only [Z2, ]); (repeat' (first | (with_reducible intro h) | (with_reducible refine And.intro (by omega) ?_) | (with_reducible refine exP (by omega) ?_) | (with_reducible apply And.intro))))
          all_goals first | rfl | exact ⟨rfl, rfl⟩ | trace_state
      · have e : nameP ts i = .bad i := by unfold nameP; rw [getD_lt h, if_neg (fun hc => hk hc.2.1)]
        have hkk : ((ts[i].kind = 1) = False) := eq_false hk
        rw [e]
        refine gstart mxd i151 rfl (by simp) ?_; simp (maxSteps := 2000000) only [↓ S2, S2, vIte, ↓reduceIte, Int.reduceNe, Nat.reduceEqDiff, reduceCtorEq, Nat.reduceLeDiff, Nat.reduceAdd, Nat.reduceLT]
        ((try with_reducible refine mkQI ?_); (repeat ((first | (with_reducible refine mkQU ?_) | simp only [brGen]); try simp (maxSteps := 2000000) only [↓ S2, S2, vIte, ↓reduceIte, Int.reduceNe, Nat.reduceEqDiff, reduceCtorEq, Nat.reduceLeDiff, Nat.reduceAdd, Nat.reduceLT, hr, bdO_f, m1lt, m1ge, h, hL, hkk, decide_true, decide_false])); (try simp +contextual (disch := omega) only [Z2, hr, bdO_f, m1lt, m1ge, h, hL, hkk, decide_true, decide_false]); (repeat' (first | (with_reducible intro h) | (with_reducible refine And.intro (by omega) ?_) | (with_reducible refine exP (by omega) ?_) | (with_reducible apply And.intro))))
        all_goals try (exfalso; omega)
        refine callS.of h3 ?_
        rintro _ _ ⟨rfl, rfl⟩ _
        ((try with_reducible refine mkQI ?_); (repeat ((first | (with_reducible refine mkQU ?_) | simp only [brGen]); try simp (maxSteps := 2000000) only [↓ S2, S2, vIte, ↓reduceIte, Int.reduceNe, Nat.reduceEqDiff, reduceCtorEq, Nat.reduceLeDiff, Nat.reduceAdd, Nat.reduceLT, ])); (try simp +contextual (disch := omega) only [Z2, ]); (repeat' (first | (with_reducible intro h) | (with_reducible refine And.intro (by omega) ?_) | (with_reducible refine exP (by omega) ?_) | (with_reducible apply And.intro))))
        all_goals first | rfl | exact ⟨rfl, rfl⟩ | trace_state
    · have e : nameP ts i = .bad i := by unfold nameP; rw [if_neg (fun hc => by omega)]
      rw [e]
      refine gstart mxd i151 rfl (by simp) ?_; simp (maxSteps := 2000000) only [↓ S2, S2, vIte, ↓reduceIte, Int.reduceNe, Nat.reduceEqDiff, reduceCtorEq, Nat.reduceLeDiff, Nat.reduceAdd, Nat.reduceLT]
      ((try with_reducible refine mkQI ?_); (repeat ((first | (with_reducible refine mkQU ?_) | simp only [brGen]); try simp (maxSteps := 2000000) only [↓ S2, S2, vIte, ↓reduceIte, Int.reduceNe, Nat.reduceEqDiff, reduceCtorEq, Nat.reduceLeDiff, Nat.reduceAdd, Nat.reduceLT, hr, bdO_f, m1lt, m1ge, hG, decide_true])); (try simp +contextual (disch := omega) only [Z2, hr, bdO_f, m1lt, m1ge, hG, decide_true]); (repeat' (first | (with_reducible intro h) | (with_reducible refine And.intro (by omega) ?_) | (with_reducible refine exP (by omega) ?_) | (with_reducible apply And.intro))))
      all_goals try (exfalso; omega)
      refine callS.of h3 ?_
      rintro _ _ ⟨rfl, rfl⟩ _
      ((try with_reducible refine mkQI ?_); (repeat ((first | (with_reducible refine mkQU ?_) | simp only [brGen]); try simp (maxSteps := 2000000) only [↓ S2, S2, vIte, ↓reduceIte, Int.reduceNe, Nat.reduceEqDiff, reduceCtorEq, Nat.reduceLeDiff, Nat.reduceAdd, Nat.reduceLT, ])); (try simp +contextual (disch := omega) only [Z2, ]); (repeat' (first | (with_reducible intro h) | (with_reducible refine And.intro (by omega) ?_) | (with_reducible refine exP (by omega) ?_) | (with_reducible apply And.intro))))
      all_goals first | rfl | exact ⟨rfl, rfl⟩ | trace_state
set_option maxHeartbeats 4000000 in
theorem q48 (op : Int) (a b : Exp) (ra rb : Nat) (H : GH) (hab : ra ≠ rb) (ha : hget H ra = some (7, a.args.map ExO)) (hb : hget H rb = some (7, b.args.map ExO)) :
    GCalls Tryz.prog 48 [I op, EO ra a, EO rb b] H (fun g H' => ∃ r, g = EO r (opE op a b) ∧ H' = (r, 7, (opE op a b).args.map ExO) :: hdel (hdel H ra) rb) := by
  have h0 : GCalls Tryz.prog 48 [I op, EO ra a, EO rb b] H (fun g H' => ∃ r, r ≠ ra ∧ r ≠ rb ∧ g = EO r (opE op a b) ∧ H' = (r, 7, [EO ra a, EO rb b]) :: H) := by
    refine gstart mxd i48 rfl (by simp) ?_; simp (maxSteps := 2000000) only [↓ S2, S2, vIte, ↓reduceIte, Int.reduceNe, Nat.reduceEqDiff, reduceCtorEq, Nat.reduceLeDiff, Nat.reduceAdd, Nat.reduceLT]
    ((try with_reducible refine mkQI ?_); (repeat ((first | (with_reducible refine mkQU ?_) | simp only [brGen]); try simp (maxSteps := 4000000) +contextual only [↓ S2, S2, vIte, ↓reduceIte, Int.reduceNe, Nat.reduceEqDiff, reduceCtorEq, Nat.reduceLeDiff, Nat.reduceAdd, Nat.reduceLT, hget_c, hset_c, hdel_c, neN, neA_cons, neA_nil, ])); (try simp +contextual (disch := omega) only [Z2, ]); (repeat' (first | (with_reducible intro h) | (with_reducible refine And.intro (by omega) ?_) | (with_reducible refine exP (by omega) ?_) | (with_reducible apply And.intro))))
    rename_i r
    have h1 := neA_get h.1 ha
    have h2 := neA_get h.1 hb
    exact ⟨r, h1, h2, rfl, rfl⟩
  refine h0.fr ?_
  rintro g H' ⟨r, h1, h2, rfl, rfl⟩
  have e1 : hdel (hset ((r, 7, [EO ra a, EO rb b]) :: H) r [.agg [I a.kind, I a.n, I a.pos, I a.type, T a.sym, T a.name, .osl 7 (a.args.map ExO)], EO rb b]) ra = (r, 7, [ExO a, EO rb b]) :: hdel H ra := by
    rw [hset_new, ExO_eq]
    simp [hdel, h1]
  have e2 : hdel (hset ((r, 7, [ExO a, EO rb b]) :: hdel H ra) r [ExO a, .agg [I b.kind, I b.n, I b.pos, I b.type, T b.sym, T b.name, .osl 7 (b.args.map ExO)]]) rb = (r, 7, [ExO a, ExO b]) :: hdel (hdel H ra) rb := by
    rw [hset_new, ExO_eq b]
    simp [hdel, h2]
  have c1 : FR (EO r (opE op a b)) ((r, 7, [EO ra a, EO rb b]) :: H) (EO r (opE op a b)) ((r, 7, [ExO a, EO rb b]) :: hdel H ra) := by
    rw [← e1]
    exact FR.close (es := [EO ra a, EO rb b]) (i := 0) (j := 6) (gs := [I a.kind, I a.n, I a.pos, I a.type, T a.sym, T a.name, .own ra 7 0 a.args.length]) h1 hget_new rfl rfl (by rw [hget_old h1]; exact ha) (by simp)
  have c2 : FR (EO r (opE op a b)) ((r, 7, [ExO a, EO rb b]) :: hdel H ra) (EO r (opE op a b)) ((r, 7, [ExO a, ExO b]) :: hdel (hdel H ra) rb) := by
    rw [← e2]
    exact FR.close (es := [ExO a, EO rb b]) (i := 1) (j := 6) (gs := [I b.kind, I b.n, I b.pos, I b.type, T b.sym, T b.name, .own rb 7 0 b.args.length]) h2 hget_new rfl rfl (by rw [hget_old h2, hget_hdel (Ne.symm hab)]; exact hb) (by simp)
  exact ⟨_, _, FR.trans c1 c2, r, rfl, rfl⟩
end Go.Proofs.YtkmedfejmndmjaaGreatDoor

namespace Go.Proofs.YtkmedfejmndmjaaGreatDoor
open Go.Gh
set_option maxRecDepth 20000
set_option linter.unusedSimpArgs false
set_option linter.unusedVariables false
open Go.Lib
set_option maxHeartbeats 4000000 in
theorem o131 {ts : List Go.Gh.Tok} {n : Int} (hK : OkR ts n) (i : Nat) (hi : i < ts.length) (rp : Nat) (H : GH) (hr : hget H rp = some (4, [SpG ts n i false])) :
    GCalls Tryz.prog 131 [.ptr rp 4 0 0] H (EP (SpG ts n) ((setP ts (ts.length + 1) (i + 1) 0 0).bind fun s j => .ok (conE s 2) j) rp H) := by
  have hl := hK.len
  have h0 : GCalls Tryz.prog 131 [.ptr rp 4 0 0] H (fun g H' => ∃ v, g = ExN (conE v 2) ∧ H' = hset H rp [SpG ts n (setP ts (ts.length + 1) (i + 1) 0 0).at (setP ts (ts.length + 1) (i + 1) 0 0).err] ∧ ∀ a j, setP ts (ts.length + 1) (i + 1) 0 0 = .ok a j → v = a) := by
    generalize hR : setP ts (ts.length + 1) (i + 1) 0 0 = R at *
    refine gstart mxd i131 rfl (by simp) ?_; simp (maxSteps := 2000000) only [↓ S2, S2, vIte, ↓reduceIte, Int.reduceNe, Nat.reduceEqDiff, reduceCtorEq, Nat.reduceLeDiff, Nat.reduceAdd, Nat.reduceLT]
    ((try with_reducible refine mkQI ?_); (repeat ((first | (with_reducible refine mkQU ?_) | simp only [brGen]); try simp (maxSteps := 4000000) +contextual only [↓ S2, S2, vIte, ↓reduceIte, Int.reduceNe, Nat.reduceEqDiff, reduceCtorEq, Nat.reduceLeDiff, Nat.reduceAdd, Nat.reduceLT, hget_c, hset_c, hdel_c, neN, neA_cons, neA_nil, hr, bdO_f, m1lt, m1ge])); (try simp +contextual (disch := omega) only [Z2, hr, bdO_f, m1lt, m1ge]); (repeat' (first | (with_reducible intro h) | (with_reducible refine And.intro (by omega) ?_) | (with_reducible refine exP (by omega) ?_) | (with_reducible apply And.intro))))
    refine wloop mxd (ι := { x : Nat × Bool × Int × Int // x.1 ≤ ts.length ∧ 0 ≤ x.2.2.1 ∧ x.2.2.1 ≤ 4095 ∧ 0 ≤ x.2.2.2 ∧ x.2.2.2 ≤ 12 ∧ (x.2.1 = true → R = .bad x.1) ∧ (x.2.1 = false → ∃ f, ts.length - x.1 < f ∧ setP ts f x.1 x.2.2.2 x.2.2.1 = R) }) (fun x => [(0, .ptr rp 4 0 0), (2, .raw 7), (3, I x.1.2.2.2), (4, I x.1.2.2.1)]) (fun x => hset H rp [SpG ts n x.1.1 x.1.2.1]) (fun x => if x.1.2.1 = true then 0 else ts.length - x.1.1 + 1) ⟨(i + 1, false, 0, 0), hi, by dsimp only; omega, by dsimp only; omega, by dsimp only; omega, by dsimp only; omega, (fun h => by cases h), fun _ => ⟨_, by dsimp only; omega, hR⟩⟩ (by simp [E2]) rfl ?_
    rintro ⟨⟨k, b, v, l⟩, hk, v0, v1, l0, l1, hb1, hb2⟩
    dsimp only at hk v0 v1 l0 l1 hb1 hb2 ⊢
    have hr' := hget_set (fs := [SpG ts n k b]) hr
    cases b with
    | true =>
      obtain rfl := hb1 rfl
      have hg := hK.ng k
      have h2 := w75 hK k hk true ⟨#[125]⟩ rp _ hr'
      ((try with_reducible refine mkQI ?_); (repeat ((first | (with_reducible refine mkQU ?_) | simp only [brGen]); try simp (maxSteps := 2000000) only [↓ S2, S2, vIte, ↓reduceIte, Int.reduceNe, Nat.reduceEqDiff, reduceCtorEq, Nat.reduceLeDiff, Nat.reduceAdd, Nat.reduceLT, hr', bdO_t, hg, decide_true, decide_false])); (try simp +contextual (disch := omega) only [Z2, hr', bdO_t, hg, decide_true, decide_false]); (repeat' (first | (with_reducible intro h) | (with_reducible refine And.intro (by omega) ?_) | (with_reducible refine exP (by omega) ?_) | (with_reducible apply And.intro))))
      refine callS.of h2 ?_
      rintro _ _ rfl _
      ((try with_reducible refine mkQI ?_); (repeat ((first | (with_reducible refine mkQU ?_) | simp only [brGen]); try simp (maxSteps := 2000000) only [↓ S2, S2, vIte, ↓reduceIte, Int.reduceNe, Nat.reduceEqDiff, reduceCtorEq, Nat.reduceLeDiff, Nat.reduceAdd, Nat.reduceLT, hset_set])); (try simp +contextual (disch := omega) only [Z2, hset_set]); (repeat' (first | (with_reducible intro h) | (with_reducible refine And.intro (by omega) ?_) | (with_reducible refine exP (by omega) ?_) | (with_reducible apply And.intro))))
      refine callS.eq (v130 v 2) ?_
      ((try with_reducible refine mkQI ?_); (repeat ((first | (with_reducible refine mkQU ?_) | simp only [brGen]); try simp (maxSteps := 2000000) only [↓ S2, S2, vIte, ↓reduceIte, Int.reduceNe, Nat.reduceEqDiff, reduceCtorEq, Nat.reduceLeDiff, Nat.reduceAdd, Nat.reduceLT, ])); (try simp +contextual (disch := omega) only [Z2, ]); (repeat' (first | (with_reducible intro h) | (with_reducible refine And.intro (by omega) ?_) | (with_reducible refine exP (by omega) ?_) | (with_reducible apply And.intro))))
      all_goals exact ⟨v, rfl, rfl⟩
    | false =>
      obtain ⟨f, hf, hs⟩ := hb2 rfl
      obtain ⟨f, rfl⟩ : ∃ g, f = g + 1 := ⟨f - 1, by omega⟩
      simp only [setP] at hs
      cases hq : sees ts k wRB with
      | true =>
        rw [if_pos hq] at hs
        subst hs
        have h1 := w73 hK k hk false ⟨#[125]⟩ rp _ hr'
        have h2 := w75 hK k hk false ⟨#[125]⟩ rp _ hr'
        rw [show (⟨#[125]⟩ : ByteArray) = wRB from rfl] at h1 h2
        rw [hq] at h1
        rw [frm_f, take_t hq] at h2
        ((try with_reducible refine mkQI ?_); (repeat ((first | (with_reducible refine mkQU ?_) | simp only [brGen]); try simp (maxSteps := 2000000) only [↓ S2, S2, vIte, ↓reduceIte, Int.reduceNe, Nat.reduceEqDiff, reduceCtorEq, Nat.reduceLeDiff, Nat.reduceAdd, Nat.reduceLT, hr', bdO_f, m1lt, m1ge])); (try simp +contextual (disch := omega) only [Z2, hr', bdO_f, m1lt, m1ge]); (repeat' (first | (with_reducible intro h) | (with_reducible refine And.intro (by omega) ?_) | (with_reducible refine exP (by omega) ?_) | (with_reducible apply And.intro))))
        refine callS.of h1 ?_
        rintro _ _ ⟨rfl, rfl⟩ _
        ((try with_reducible refine mkQI ?_); (repeat ((first | (with_reducible refine mkQU ?_) | simp only [brGen]); try simp (maxSteps := 2000000) only [↓ S2, S2, vIte, ↓reduceIte, Int.reduceNe, Nat.reduceEqDiff, reduceCtorEq, Nat.reduceLeDiff, Nat.reduceAdd, Nat.reduceLT, hr', Bool.not_false, Bool.true_and, Bool.not_true])); (try simp +contextual (disch := omega) only [Z2, hr', Bool.not_false, Bool.true_and, Bool.not_true]); (repeat' (first | (with_reducible intro h) | (with_reducible refine And.intro (by omega) ?_) | (with_reducible refine exP (by omega) ?_) | (with_reducible apply And.intro))))
        refine callS.of h2 ?_
        rintro _ _ rfl _
        ((try with_reducible refine mkQI ?_); (repeat ((first | (with_reducible refine mkQU ?_) | simp only [brGen]); try simp (maxSteps := 2000000) only [↓ S2, S2, vIte, ↓reduceIte, Int.reduceNe, Nat.reduceEqDiff, reduceCtorEq, Nat.reduceLeDiff, Nat.reduceAdd, Nat.reduceLT, hset_set])); (try simp +contextual (disch := omega) only [Z2, hset_set]); (repeat' (first | (with_reducible intro h) | (with_reducible refine And.intro (by omega) ?_) | (with_reducible refine exP (by omega) ?_) | (with_reducible apply And.intro))))
        refine callS.eq (v130 v 2) ?_
        ((try with_reducible refine mkQI ?_); (repeat ((first | (with_reducible refine mkQU ?_) | simp only [brGen]); try simp (maxSteps := 2000000) only [↓ S2, S2, vIte, ↓reduceIte, Int.reduceNe, Nat.reduceEqDiff, reduceCtorEq, Nat.reduceLeDiff, Nat.reduceAdd, Nat.reduceLT, ])); (try simp +contextual (disch := omega) only [Z2, ]); (repeat' (first | (with_reducible intro h) | (with_reducible refine And.intro (by omega) ?_) | (with_reducible refine exP (by omega) ?_) | (with_reducible apply And.intro))))
        all_goals first | exact ⟨v, rfl, rfl, fun a j h => by cases h; rfl⟩ | trace_state
      | false =>
        rw [if_neg (by rw [hq]; decide)] at hs
        have h1 := w73 hK k hk false ⟨#[125]⟩ rp _ hr'
        have h2 := w150 hK k hk false l 11 rp _ hr'
        rw [show (⟨#[125]⟩ : ByteArray) = wRB from rfl, hq] at h1
        rw [frm_f] at h2
        cases hn : numP ts k l 11 with
        | bad j =>
          rw [hn] at hs h2
          simp only [PR.val, PR.at, PR.err] at h2
          have hj : j = k := by unfold numP at hn; split at hn <;> cases hn; rfl
          subst hj
          have hr2 := hget_set (fs := [SpG ts n j true]) hr
          have hw0 : IntKind.u64.wrap 0 = 0 := wrapU 0 (by omega) (by omega)
          obtain ⟨q0, q1, _⟩ := set_len v0 v1 (by omega : (0 : Int) ≤ 0) (by omega)
          ((try with_reducible refine mkQI ?_); (repeat ((first | (with_reducible refine mkQU ?_) | simp only [brGen]); try simp (maxSteps := 2000000) only [↓ S2, S2, vIte, ↓reduceIte, Int.reduceNe, Nat.reduceEqDiff, reduceCtorEq, Nat.reduceLeDiff, Nat.reduceAdd, Nat.reduceLT, hr', bdO_f, m1lt, m1ge])); (try simp +contextual (disch := omega) only [Z2, hr', bdO_f, m1lt, m1ge]); (repeat' (first | (with_reducible intro h) | (with_reducible refine And.intro (by omega) ?_) | (with_reducible refine exP (by omega) ?_) | (with_reducible apply And.intro))))
          refine callS.of h1 ?_
          rintro _ _ ⟨rfl, rfl⟩ _
          ((try with_reducible refine mkQI ?_); (repeat ((first | (with_reducible refine mkQU ?_) | simp only [brGen]); try simp (maxSteps := 2000000) only [↓ S2, S2, vIte, ↓reduceIte, Int.reduceNe, Nat.reduceEqDiff, reduceCtorEq, Nat.reduceLeDiff, Nat.reduceAdd, Nat.reduceLT, hr', Bool.and_false, Bool.not_false])); (try simp +contextual (disch := omega) only [Z2, hr', Bool.and_false, Bool.not_false]); (repeat' (first | (with_reducible intro h) | (with_reducible refine And.intro (by omega) ?_) | (with_reducible refine exP (by omega) ?_) | (with_reducible apply And.intro))))
          refine callS.of h2 ?_
          rintro _ _ ⟨rfl, rfl⟩ _
          ((try with_reducible refine mkQI ?_); (repeat ((first | (with_reducible refine mkQU ?_) | simp only [brGen]); try simp (maxSteps := 4000000) +contextual only [↓ S2, S2, vIte, ↓reduceIte, Int.reduceNe, Nat.reduceEqDiff, reduceCtorEq, Nat.reduceLeDiff, Nat.reduceAdd, Nat.reduceLT, hget_c, hset_c, hdel_c, neN, neA_cons, neA_nil, hset_set, hr2, hw0])); (try simp +contextual (disch := omega) only [Z2, hset_set, hr2, hw0]); (repeat' (first | (with_reducible intro h) | (with_reducible refine And.intro (by omega) ?_) | (with_reducible refine exP (by omega) ?_) | (with_reducible apply And.intro))))
          all_goals try (exfalso; omega)
          exact nx ⟨(j, true, orI .i64 v (shlI .i64 1 0), 0 + 1), hk, q0, q1, by dsimp only; omega, by dsimp only; omega, fun _ => hs.symm, fun h => by cases h⟩ (by simp) (by simp [E2]) rfl
        | ok m j =>
          rw [hn] at hs h2
          simp only [PR.val, PR.at, PR.err] at h2
          have hlt0 := num_lt hn
          obtain ⟨rfl, n0, n1⟩ := num_nx hn
          have hlt : k < ts.length := hlt0
          obtain ⟨q0, q1, _⟩ := set_len v0 v1 (by omega : 0 ≤ m) n1
          have hr2 := hget_set (fs := [SpG ts n (k + 1) false]) hr
          have hwu := wrapU m (by omega) (by omega)
          ((try with_reducible refine mkQI ?_); (repeat ((first | (with_reducible refine mkQU ?_) | simp only [brGen]); try simp (maxSteps := 2000000) only [↓ S2, S2, vIte, ↓reduceIte, Int.reduceNe, Nat.reduceEqDiff, reduceCtorEq, Nat.reduceLeDiff, Nat.reduceAdd, Nat.reduceLT, hr', bdO_f, m1lt, m1ge])); (try simp +contextual (disch := omega) only [Z2, hr', bdO_f, m1lt, m1ge]); (repeat' (first | (with_reducible intro h) | (with_reducible refine And.intro (by omega) ?_) | (with_reducible refine exP (by omega) ?_) | (with_reducible apply And.intro))))
          refine callS.of h1 ?_
          rintro _ _ ⟨rfl, rfl⟩ _
          ((try with_reducible refine mkQI ?_); (repeat ((first | (with_reducible refine mkQU ?_) | simp only [brGen]); try simp (maxSteps := 2000000) only [↓ S2, S2, vIte, ↓reduceIte, Int.reduceNe, Nat.reduceEqDiff, reduceCtorEq, Nat.reduceLeDiff, Nat.reduceAdd, Nat.reduceLT, hr', Bool.and_false, Bool.not_false])); (try simp +contextual (disch := omega) only [Z2, hr', Bool.and_false, Bool.not_false]); (repeat' (first | (with_reducible intro h) | (with_reducible refine And.intro (by omega) ?_) | (with_reducible refine exP (by omega) ?_) | (with_reducible apply And.intro))))
          refine callS.of h2 ?_
          rintro _ _ ⟨rfl, rfl⟩ _
          ((try with_reducible refine mkQI ?_); (repeat ((first | (with_reducible refine mkQU ?_) | simp only [brGen]); try simp (maxSteps := 4000000) +contextual only [↓ S2, S2, vIte, ↓reduceIte, Int.reduceNe, Nat.reduceEqDiff, reduceCtorEq, Nat.reduceLeDiff, Nat.reduceAdd, Nat.reduceLT, hget_c, hset_c, hdel_c, neN, neA_cons, neA_nil, hset_set, hr2, hwu])); (try simp +contextual (disch := omega) only [Z2, hset_set, hr2, hwu]); (repeat' (first | (with_reducible intro h) | (with_reducible refine And.intro (by omega) ?_) | (with_reducible refine exP (by omega) ?_) | (with_reducible apply And.intro))))
          all_goals try (exfalso; omega)
          all_goals first | exact nx ⟨(k + 1, false, orI .i64 v (shlI .i64 1 m), m + 1), by dsimp only; omega, q0, q1, by dsimp only; omega, by dsimp only; omega, (fun h => by cases h), fun _ => ⟨f, by dsimp only; omega, hs⟩⟩ (by dsimp only; simp; omega) (by simp [E2]) rfl | trace_state
  refine h0.fr ?_
  rintro g H' ⟨v, rfl, rfl, hv⟩
  obtain ⟨r, hf⟩ := FR.nilE (e := conE v 2) rfl (hset H rp [SpG ts n (setP ts (ts.length + 1) (i + 1) 0 0).at (setP ts (ts.length + 1) (i + 1) 0 0).err])
  refine ⟨_, _, hf, conE v 2, r, rfl, ?_, ?_⟩
  · cases setP ts (ts.length + 1) (i + 1) 0 0 <;> rfl
  · intro a j h
    cases hs : setP ts (ts.length + 1) (i + 1) 0 0 with
    | bad k => rw [hs] at h; cases h
    | ok s k => rw [hs] at h; cases h; rw [hv s _ hs]
end Go.Proofs.YtkmedfejmndmjaaGreatDoor

namespace Go.Proofs.YtkmedfejmndmjaaGreatDoor
open Go.Gh
set_option maxRecDepth 20000
set_option linter.unusedSimpArgs false
set_option linter.unusedVariables false
open Go.Lib
set_option maxHeartbeats 8000000 in
theorem e133 {ts : List Go.Gh.Tok} {nE : Int} (hK : OkR ts nE) (i : Nat) (hi : i < ts.length) (rp : Nat) (H : GH) (hr : hget H rp = some (4, [SpG ts nE i false])) :
    GCalls Tryz.prog 133 [.ptr rp 4 0 0] H (EP (SpG ts nE) ((numP ts (i + 1) 0 3).bind fun p j => (takeW ts j wDot).bind fun _ j => (nameP ts j).bind fun n j => .ok (.mk 3 0 p 0 noS n []) j) rp H) := by
  have hl := hK.len
  have h2 : ∀ fs, hget (hset H rp fs) rp = some (4, fs) := fun fs => hget_set hr
  have hi1 : i + 1 ≤ ts.length := hi
  generalize hR : (((numP ts (i + 1) 0 3).bind fun p j => (takeW ts j wDot).bind fun _ j => (nameP ts j).bind fun n j => .ok (.mk 3 0 p 0 noS n []) j : PR Exp)) = R
  refine EP.of ?_
  refine gstart mxd i133 rfl (by simp) ?_; simp (maxSteps := 2000000) only [↓ S2, S2, vIte, ↓reduceIte, Int.reduceNe, Nat.reduceEqDiff, reduceCtorEq, Nat.reduceLeDiff, Nat.reduceAdd, Nat.reduceLT]
  ((try with_reducible refine mkQI ?_); (repeat ((first | (with_reducible refine mkQU ?_) | simp only [brGen]); try simp (maxSteps := 2000000) only [↓ S2, S2, vIte, ↓reduceIte, Int.reduceNe, Nat.reduceEqDiff, reduceCtorEq, Nat.reduceLeDiff, Nat.reduceAdd, Nat.reduceLT, hr, bdO_f, m1lt, m1ge])); (try simp +contextual (disch := omega) only [Z2, hr, bdO_f, m1lt, m1ge]); (repeat' (first | (with_reducible intro h) | (with_reducible refine And.intro (by omega) ?_) | (with_reducible refine exP (by omega) ?_) | (with_reducible apply And.intro))))
  rw [show hset H rp [.agg [TkS ts, I ((i : Int) + 1), I nE, I (-1)]] = hset H rp [SpG ts nE (i + 1) false] from rfl]
  have b1 : (frm false (fun i => numP ts i 0 3) (i + 1)).at ≤ ts.length := frm_bd (ba_num _ _ _) hi1
  refine callS.of (w150 hK (i + 1) hi1 false 0 3 rp _ (h2 _)) ?_
  rintro _ _ ⟨rfl, rfl⟩ _
  rw [hset_set]
  generalize hP1 : frm false (fun i => numP ts i 0 3) (i + 1) = P1 at *
  ((try with_reducible refine mkQI ?_); (repeat ((first | (with_reducible refine mkQU ?_) | simp only [brGen]); try simp (maxSteps := 2000000) only [↓ S2, S2, vIte, ↓reduceIte, Int.reduceNe, Nat.reduceEqDiff, reduceCtorEq, Nat.reduceLeDiff, Nat.reduceAdd, Nat.reduceLT, ])); (try simp +contextual (disch := omega) only [Z2, ]); (repeat' (first | (with_reducible intro h) | (with_reducible refine And.intro (by omega) ?_) | (with_reducible refine exP (by omega) ?_) | (with_reducible apply And.intro))))
  have b2 : (frm P1.err (fun i => takeW ts i wDot) P1.at).at ≤ ts.length := frm_bd (ba_take _ _) b1
  refine callS.of (w75 hK P1.at b1 P1.err wDot rp _ (h2 _)) ?_
  rintro _ _ rfl _
  rw [hset_set]
  generalize hP2 : frm P1.err (fun i => takeW ts i wDot) P1.at = P2 at *
  ((try with_reducible refine mkQI ?_); (repeat ((first | (with_reducible refine mkQU ?_) | simp only [brGen]); try simp (maxSteps := 2000000) only [↓ S2, S2, vIte, ↓reduceIte, Int.reduceNe, Nat.reduceEqDiff, reduceCtorEq, Nat.reduceLeDiff, Nat.reduceAdd, Nat.reduceLT, ])); (try simp +contextual (disch := omega) only [Z2, ]); (repeat' (first | (with_reducible intro h) | (with_reducible refine And.intro (by omega) ?_) | (with_reducible refine exP (by omega) ?_) | (with_reducible apply And.intro))))
  refine callS.of (w151 hK P2.at b2 P2.err rp _ (h2 _)) ?_
  rintro _ _ ⟨rfl, rfl⟩ _
  rw [hset_set]
  ((try with_reducible refine mkQI ?_); (repeat ((first | (with_reducible refine mkQU ?_) | simp only [brGen]); try simp (maxSteps := 2000000) only [↓ S2, S2, vIte, ↓reduceIte, Int.reduceNe, Nat.reduceEqDiff, reduceCtorEq, Nat.reduceLeDiff, Nat.reduceAdd, Nat.reduceLT, ])); (try simp +contextual (disch := omega) only [Z2, ]); (repeat' (first | (with_reducible intro h) | (with_reducible refine And.intro (by omega) ?_) | (with_reducible refine exP (by omega) ?_) | (with_reducible apply And.intro))))
  all_goals (
    refine .inr (.inl ⟨.mk 3 0 (PR.val 0 P1) 0 noS (PR.val noS (frm P2.err (nameP ts) P2.at)) [], rfl, rfl, ?_, ?_⟩)
    · subst hR hP2 hP1
      rw [frm_f]
      cases numP ts (i + 1) 0 3 with
      | bad k => rfl
      | ok p k =>
        show hset H rp [SpG ts nE (frm (takeW ts k wDot).err (nameP ts) (takeW ts k wDot).at).at (frm (takeW ts k wDot).err (nameP ts) (takeW ts k wDot).at).err] = hset H rp [SpG ts nE ((takeW ts k wDot).bind _).at ((takeW ts k wDot).bind _).err]
        cases takeW ts k wDot with
        | bad m => rfl
        | ok u m =>
          show hset H rp [SpG ts nE (nameP ts m).at (nameP ts m).err] = hset H rp [SpG ts nE ((nameP ts m).bind _).at ((nameP ts m).bind _).err]
          cases nameP ts m <;> rfl
    · subst hR hP2 hP1
      rw [frm_f]
      intro a j hx
      obtain ⟨p, k, q1, hx⟩ := bind_ok hx
      obtain ⟨u, m, q2, hx⟩ := bind_ok hx
      obtain ⟨n, q, q3, hx⟩ := bind_ok hx
      rw [q1]
      simp only [PR.at, PR.err, frm_f]
      rw [q2]
      simp only [PR.at, PR.err, frm_f]
      rw [q3]
      cases hx
      rfl)
set_option maxHeartbeats 8000000 in
theorem e134 {ts : List Go.Gh.Tok} {nE : Int} (hK : OkR ts nE) (i : Nat) (hi : i < ts.length) (rp : Nat) (H : GH) (hr : hget H rp = some (4, [SpG ts nE i false])) :
    GCalls Tryz.prog 134 [.ptr rp 4 0 0] H (EP (SpG ts nE) ((takeW ts (i + 1) wLP).bind fun _ j => (numP ts j 0 3).bind fun p j => (takeW ts j wRP).bind fun _ j => .ok (.mk 6 0 p 0 noS noS []) j) rp H) := by
  have hl := hK.len
  have h2 : ∀ fs, hget (hset H rp fs) rp = some (4, fs) := fun fs => hget_set hr
  have hi1 : i + 1 ≤ ts.length := hi
  generalize hR : (((takeW ts (i + 1) wLP).bind fun _ j => (numP ts j 0 3).bind fun p j => (takeW ts j wRP).bind fun _ j => .ok (.mk 6 0 p 0 noS noS []) j : PR Exp)) = R
  refine EP.of ?_
  refine gstart mxd i134 rfl (by simp) ?_; simp (maxSteps := 2000000) only [↓ S2, S2, vIte, ↓reduceIte, Int.reduceNe, Nat.reduceEqDiff, reduceCtorEq, Nat.reduceLeDiff, Nat.reduceAdd, Nat.reduceLT]
  ((try with_reducible refine mkQI ?_); (repeat ((first | (with_reducible refine mkQU ?_) | simp only [brGen]); try simp (maxSteps := 2000000) only [↓ S2, S2, vIte, ↓reduceIte, Int.reduceNe, Nat.reduceEqDiff, reduceCtorEq, Nat.reduceLeDiff, Nat.reduceAdd, Nat.reduceLT, hr, bdO_f, m1lt, m1ge])); (try simp +contextual (disch := omega) only [Z2, hr, bdO_f, m1lt, m1ge]); (repeat' (first | (with_reducible intro h) | (with_reducible refine And.intro (by omega) ?_) | (with_reducible refine exP (by omega) ?_) | (with_reducible apply And.intro))))
  rw [show hset H rp [.agg [TkS ts, I ((i : Int) + 1), I nE, I (-1)]] = hset H rp [SpG ts nE (i + 1) false] from rfl]
  have b1 : (frm false (fun i => takeW ts i wLP) (i + 1)).at ≤ ts.length := frm_bd (ba_take _ _) hi1
  refine callS.of (w75 hK (i + 1) hi1 false wLP rp _ (h2 _)) ?_
  rintro _ _ rfl _
  rw [hset_set]
  generalize hP1 : frm false (fun i => takeW ts i wLP) (i + 1) = P1 at *
  ((try with_reducible refine mkQI ?_); (repeat ((first | (with_reducible refine mkQU ?_) | simp only [brGen]); try simp (maxSteps := 2000000) only [↓ S2, S2, vIte, ↓reduceIte, Int.reduceNe, Nat.reduceEqDiff, reduceCtorEq, Nat.reduceLeDiff, Nat.reduceAdd, Nat.reduceLT, ])); (try simp +contextual (disch := omega) only [Z2, ]); (repeat' (first | (with_reducible intro h) | (with_reducible refine And.intro (by omega) ?_) | (with_reducible refine exP (by omega) ?_) | (with_reducible apply And.intro))))
  have b2 : (frm P1.err (fun i => numP ts i 0 3) P1.at).at ≤ ts.length := frm_bd (ba_num _ _ _) b1
  refine callS.of (w150 hK P1.at b1 P1.err 0 3 rp _ (h2 _)) ?_
  rintro _ _ ⟨rfl, rfl⟩ _
  rw [hset_set]
  generalize hP2 : frm P1.err (fun i => numP ts i 0 3) P1.at = P2 at *
  ((try with_reducible refine mkQI ?_); (repeat ((first | (with_reducible refine mkQU ?_) | simp only [brGen]); try simp (maxSteps := 2000000) only [↓ S2, S2, vIte, ↓reduceIte, Int.reduceNe, Nat.reduceEqDiff, reduceCtorEq, Nat.reduceLeDiff, Nat.reduceAdd, Nat.reduceLT, ])); (try simp +contextual (disch := omega) only [Z2, ]); (repeat' (first | (with_reducible intro h) | (with_reducible refine And.intro (by omega) ?_) | (with_reducible refine exP (by omega) ?_) | (with_reducible apply And.intro))))
  refine callS.of (w75 hK P2.at b2 P2.err wRP rp _ (h2 _)) ?_
  rintro _ _ rfl _
  rw [hset_set]
  generalize hP3 : frm P2.err (fun i => takeW ts i wRP) P2.at = P3 at *
  ((try with_reducible refine mkQI ?_); (repeat ((first | (with_reducible refine mkQU ?_) | simp only [brGen]); try simp (maxSteps := 2000000) only [↓ S2, S2, vIte, ↓reduceIte, Int.reduceNe, Nat.reduceEqDiff, reduceCtorEq, Nat.reduceLeDiff, Nat.reduceAdd, Nat.reduceLT, ])); (try simp +contextual (disch := omega) only [Z2, ]); (repeat' (first | (with_reducible intro h) | (with_reducible refine And.intro (by omega) ?_) | (with_reducible refine exP (by omega) ?_) | (with_reducible apply And.intro))))
  rw [frm_f] at hP1
  rw [frm_bind] at hP2 hP3
  have hS : StP P3 R := by
    subst hR hP3 hP2 hP1
    rw [bind_as]
    exact StP.bind _ fun _ j => StP.bind (numP ts j 0 3) fun p k => StP.last (takeW ts k wRP) _
  all_goals (
    refine .inr (.inl ⟨.mk 6 0 (PR.val 0 P2) 0 noS noS [], rfl, rfl, by rw [hS.1, hS.2], ?_⟩)
    subst hR
    intro a j hx
    obtain ⟨u, m, q1, hx⟩ := bind_ok hx
    obtain ⟨n, k, q2, hx⟩ := bind_ok hx
    obtain ⟨v, q, q3, hx⟩ := bind_ok hx
    have hv : PR.val 0 P2 = n := by rw [← hP2, ← hP1, q1]; show PR.val 0 (numP ts m 0 3) = n; rw [q2]; rfl
    rw [hv]
    cases hx
    rfl)
set_option maxHeartbeats 8000000 in
theorem e136 {ts : List Go.Gh.Tok} {nE : Int} (hK : OkR ts nE) (i : Nat) (hi : i < ts.length) (op : Int) (hE : ∀ (j : Nat) (b : Bool) (rp : Nat) (H : GH), i < j → j ≤ ts.length → hget H rp = some (4, [SpG ts nE j b]) → GCalls Tryz.prog 38 [.ptr rp 4 0 0] H (EP (SpG ts nE) (frm b (rE ts) j) rp H)) (rp : Nat) (H : GH) (hr : hget H rp = some (4, [SpG ts nE i false])) :
    GCalls Tryz.prog 136 [.ptr rp 4 0 0, I op] H (EP (SpG ts nE) ((takeW ts (i + 1) wLP).bind fun _ j => (rE ts j).bind fun a j => (takeW ts j wComma).bind fun _ j => (rE ts j).bind fun b j => (takeW ts j wRP).bind fun _ j => .ok (opE op a b) j) rp H) := by
  have hl := hK.len
  have h2 : ∀ fs, hget (hset H rp fs) rp = some (4, fs) := fun fs => hget_set hr
  have hi1 : i + 1 ≤ ts.length := hi
  generalize hR : (((takeW ts (i + 1) wLP).bind fun _ j => (rE ts j).bind fun a j => (takeW ts j wComma).bind fun _ j => (rE ts j).bind fun b j => (takeW ts j wRP).bind fun _ j => .ok (opE op a b) j : PR Exp)) = R
  refine EP.of ?_
  refine gstart mxd i136 rfl (by simp) ?_; simp (maxSteps := 2000000) only [↓ S2, S2, vIte, ↓reduceIte, Int.reduceNe, Nat.reduceEqDiff, reduceCtorEq, Nat.reduceLeDiff, Nat.reduceAdd, Nat.reduceLT]
  ((try with_reducible refine mkQI ?_); (repeat ((first | (with_reducible refine mkQU ?_) | simp only [brGen]); try simp (maxSteps := 2000000) only [↓ S2, S2, vIte, ↓reduceIte, Int.reduceNe, Nat.reduceEqDiff, reduceCtorEq, Nat.reduceLeDiff, Nat.reduceAdd, Nat.reduceLT, hr, bdO_f, m1lt, m1ge])); (try simp +contextual (disch := omega) only [Z2, hr, bdO_f, m1lt, m1ge]); (repeat' (first | (with_reducible intro h) | (with_reducible refine And.intro (by omega) ?_) | (with_reducible refine exP (by omega) ?_) | (with_reducible apply And.intro))))
  rw [show hset H rp [.agg [TkS ts, I ((i : Int) + 1), I nE, I (-1)]] = hset H rp [SpG ts nE (i + 1) false] from rfl]
  have b1 : (frm false (fun i => takeW ts i wLP) (i + 1)).at ≤ ts.length := frm_bd (ba_take _ _) hi1
  have l1 : i < (frm false (fun i => takeW ts i wLP) (i + 1)).at := (ba_take (i + 1) wLP hi1).1
  refine callS.of (w75 hK (i + 1) hi1 false wLP rp _ (h2 _)) ?_
  rintro _ _ rfl _
  rw [hset_set]
  generalize hP1 : frm false (fun i => takeW ts i wLP) (i + 1) = P1 at *
  ((try with_reducible refine mkQI ?_); (repeat ((first | (with_reducible refine mkQU ?_) | simp only [brGen]); try simp (maxSteps := 2000000) only [↓ S2, S2, vIte, ↓reduceIte, Int.reduceNe, Nat.reduceEqDiff, reduceCtorEq, Nat.reduceLeDiff, Nat.reduceAdd, Nat.reduceLT, ])); (try simp +contextual (disch := omega) only [Z2, ]); (repeat' (first | (with_reducible intro h) | (with_reducible refine And.intro (by omega) ?_) | (with_reducible refine exP (by omega) ?_) | (with_reducible apply And.intro))))
  have b2 : (frm P1.err (rE ts) P1.at).at ≤ ts.length := frm_bd (rE_bd _) b1
  have l2 : i < (frm P1.err (rE ts) P1.at).at := Nat.lt_of_lt_of_le l1 (frm_ge (rE_bd _) b1)
  refine callS.of (hE P1.at P1.err rp _ l1 b1 (h2 _)) ?_
  rintro _ _ ⟨ea, ra, rfl, rfl, hea⟩ hna
  rw [hset_set] at hna ⊢
  have hrap : ra ≠ rp := ne_of_new hna (h2 _)
  generalize hP2 : frm P1.err (rE ts) P1.at = P2 at *
  ((try with_reducible refine mkQI ?_); (repeat ((first | (with_reducible refine mkQU ?_) | simp only [brGen]); try simp (maxSteps := 2000000) only [↓ S2, S2, vIte, ↓reduceIte, Int.reduceNe, Nat.reduceEqDiff, reduceCtorEq, Nat.reduceLeDiff, Nat.reduceAdd, Nat.reduceLT, hrap])); (try simp +contextual (disch := omega) only [Z2, hrap]); (repeat' (first | (with_reducible intro h) | (with_reducible refine And.intro (by omega) ?_) | (with_reducible refine exP (by omega) ?_) | (with_reducible apply And.intro))))
  have b3 : (frm P2.err (fun i => takeW ts i wComma) P2.at).at ≤ ts.length := frm_bd (ba_take _ _) b2
  have l3 : i < (frm P2.err (fun i => takeW ts i wComma) P2.at).at := Nat.lt_of_lt_of_le l2 (frm_ge (ba_take _ _) b2)
  refine callS.of (w75 hK P2.at b2 P2.err wComma rp _ (by rw [hget_old hrap]; exact h2 _)) ?_
  rintro _ _ rfl _
  rw [hset_old hrap, hset_set]
  generalize hP3 : frm P2.err (fun i => takeW ts i wComma) P2.at = P3 at *
  ((try with_reducible refine mkQI ?_); (repeat ((first | (with_reducible refine mkQU ?_) | simp only [brGen]); try simp (maxSteps := 2000000) only [↓ S2, S2, vIte, ↓reduceIte, Int.reduceNe, Nat.reduceEqDiff, reduceCtorEq, Nat.reduceLeDiff, Nat.reduceAdd, Nat.reduceLT, hrap])); (try simp +contextual (disch := omega) only [Z2, hrap]); (repeat' (first | (with_reducible intro h) | (with_reducible refine And.intro (by omega) ?_) | (with_reducible refine exP (by omega) ?_) | (with_reducible apply And.intro))))
  have b4 : (frm P3.err (rE ts) P3.at).at ≤ ts.length := frm_bd (rE_bd _) b3
  refine callS.of (hE P3.at P3.err rp _ l3 b3 (by rw [hget_old hrap]; exact h2 _)) ?_
  rintro _ _ ⟨eb, rb, rfl, rfl, heb⟩ hnb
  rw [hset_old hrap, hset_set] at hnb ⊢
  have hrba : rb ≠ ra := ne_of_new hnb hget_new
  have hrbp : rb ≠ rp := ne_of_new hnb (by rw [hget_old hrap]; exact h2 _)
  generalize hP4 : frm P3.err (rE ts) P3.at = P4 at *
  ((try with_reducible refine mkQI ?_); (repeat ((first | (with_reducible refine mkQU ?_) | simp only [brGen]); try simp (maxSteps := 2000000) only [↓ S2, S2, vIte, ↓reduceIte, Int.reduceNe, Nat.reduceEqDiff, reduceCtorEq, Nat.reduceLeDiff, Nat.reduceAdd, Nat.reduceLT, hrap, hrbp, hrba])); (try simp +contextual (disch := omega) only [Z2, hrap, hrbp, hrba]); (repeat' (first | (with_reducible intro h) | (with_reducible refine And.intro (by omega) ?_) | (with_reducible refine exP (by omega) ?_) | (with_reducible apply And.intro))))
  refine callS.of (w75 hK P4.at b4 P4.err wRP rp _ (by rw [hget_old hrbp, hget_old hrap]; exact h2 _)) ?_
  rintro _ _ rfl _
  rw [hset_old hrbp, hset_old hrap, hset_set]
  generalize hP5 : frm P4.err (fun i => takeW ts i wRP) P4.at = P5 at *
  ((try with_reducible refine mkQI ?_); (repeat ((first | (with_reducible refine mkQU ?_) | simp only [brGen]); try simp (maxSteps := 2000000) only [↓ S2, S2, vIte, ↓reduceIte, Int.reduceNe, Nat.reduceEqDiff, reduceCtorEq, Nat.reduceLeDiff, Nat.reduceAdd, Nat.reduceLT, hrap, hrbp, hrba])); (try simp +contextual (disch := omega) only [Z2, hrap, hrbp, hrba]); (repeat' (first | (with_reducible intro h) | (with_reducible refine And.intro (by omega) ?_) | (with_reducible refine exP (by omega) ?_) | (with_reducible apply And.intro))))
  refine callS.of (q48 op ea eb ra rb _ (Ne.symm hrba) (by rw [hget_old hrba]; exact hget_new) hget_new) ?_
  rintro _ _ ⟨r, rfl, rfl⟩ hn
  have hd : hdel (hdel ((rb, 7, eb.args.map ExO) :: (ra, 7, ea.args.map ExO) :: hset H rp [SpG ts nE P5.at P5.err]) ra) rb = hset H rp [SpG ts nE P5.at P5.err] := by simp [hdel, hrba]
  rw [hd] at hn ⊢
  ((try with_reducible refine mkQI ?_); (repeat ((first | (with_reducible refine mkQU ?_) | simp only [brGen]); try simp (maxSteps := 2000000) only [↓ S2, S2, vIte, ↓reduceIte, Int.reduceNe, Nat.reduceEqDiff, reduceCtorEq, Nat.reduceLeDiff, Nat.reduceAdd, Nat.reduceLT, ])); (try simp +contextual (disch := omega) only [Z2, ]); (repeat' (first | (with_reducible intro h) | (with_reducible refine And.intro (by omega) ?_) | (with_reducible refine exP (by omega) ?_) | (with_reducible apply And.intro))))
  rw [frm_f] at hP1
  rw [frm_bind] at hP2 hP3 hP4 hP5
  have hS : StP P5 R := by
    subst hR hP5 hP4 hP3 hP2 hP1
    simp only [bind_as]
    exact StP.bind _ fun _ j => StP.bind _ fun a j => StP.bind _ fun _ j => StP.bind (rE ts j) fun b j => StP.last _ _
  all_goals (
    refine .inl ⟨opE op ea eb, r, rfl, by rw [hS.1, hS.2], ?_⟩
    subst hR
    intro a j hx
    obtain ⟨u, m, q1, hx⟩ := bind_ok hx
    obtain ⟨a1, k, q2, hx⟩ := bind_ok hx
    obtain ⟨v, q, q3, hx⟩ := bind_ok hx
    obtain ⟨a2, n, q4, hx⟩ := bind_ok hx
    obtain ⟨v2, q0, q5, hx⟩ := bind_ok hx
    have f2 : P2 = .ok a1 k := by rw [← hP2, ← hP1, q1]; exact q2
    have f4 : P4 = .ok a2 n := by rw [← hP4, ← hP3, f2, show (PR.ok a1 k).bind (fun _ i => takeW ts i wComma) = takeW ts k wComma from rfl, q3]; exact q4
    cases hx
    rw [hea _ _ f2, heb _ _ f4])
set_option maxHeartbeats 8000000 in
theorem e137 {ts : List Go.Gh.Tok} {nE : Int} (hK : OkR ts nE) (i : Nat) (hi : i < ts.length) (hA : ∀ (j : Nat) (b : Bool) (rp : Nat) (H : GH), (b = false → i < j) → j ≤ ts.length → hget H rp = some (4, [SpG ts nE j b]) → GCalls Tryz.prog 106 [.ptr rp 4 0 0] H (EP (SpG ts nE) (frm b (rA ts) j) rp H)) (rp : Nat) (H : GH) (hr : hget H rp = some (4, [SpG ts nE i false])) :
    GCalls Tryz.prog 137 [.ptr rp 4 0 0] H (EP (SpG ts nE) ((nameP ts i).bind fun s j => (takeW ts j wDot).bind fun _ j => (nameP ts j).bind fun n j => (takeW ts j wOf).bind fun _ j => (rA ts j).bind fun e j => .ok (.mk 8 0 0 0 s n [e]) j) rp H) := by
  have hl := hK.len
  have h2 : ∀ fs, hget (hset H rp fs) rp = some (4, fs) := fun fs => hget_set hr
  have hi1 : i + 1 ≤ ts.length := hi
  generalize hR : (((nameP ts i).bind fun s j => (takeW ts j wDot).bind fun _ j => (nameP ts j).bind fun n j => (takeW ts j wOf).bind fun _ j => (rA ts j).bind fun e j => .ok (.mk 8 0 0 0 s n [e]) j : PR Exp)) = R
  refine EP.of ?_
  refine gstart mxd i137 rfl (by simp) ?_; simp (maxSteps := 2000000) only [↓ S2, S2, vIte, ↓reduceIte, Int.reduceNe, Nat.reduceEqDiff, reduceCtorEq, Nat.reduceLeDiff, Nat.reduceAdd, Nat.reduceLT]
  ((try with_reducible refine mkQI ?_); (repeat ((first | (with_reducible refine mkQU ?_) | simp only [brGen]); try simp (maxSteps := 2000000) only [↓ S2, S2, vIte, ↓reduceIte, Int.reduceNe, Nat.reduceEqDiff, reduceCtorEq, Nat.reduceLeDiff, Nat.reduceAdd, Nat.reduceLT, hr, bdO_f, m1lt, m1ge])); (try simp +contextual (disch := omega) only [Z2, hr, bdO_f, m1lt, m1ge]); (repeat' (first | (with_reducible intro h) | (with_reducible refine And.intro (by omega) ?_) | (with_reducible refine exP (by omega) ?_) | (with_reducible apply And.intro))))
  refine callS.of (w151 hK i (Nat.le_of_lt hi) false rp H hr) ?_
  rintro _ _ ⟨rfl, rfl⟩ _
  have b1 : (frm false (nameP ts) i).at ≤ ts.length := frm_bd (ba_name _) (Nat.le_of_lt hi)
  generalize hP1 : frm false (nameP ts) i = P1 at *
  ((try with_reducible refine mkQI ?_); (repeat ((first | (with_reducible refine mkQU ?_) | simp only [brGen]); try simp (maxSteps := 2000000) only [↓ S2, S2, vIte, ↓reduceIte, Int.reduceNe, Nat.reduceEqDiff, reduceCtorEq, Nat.reduceLeDiff, Nat.reduceAdd, Nat.reduceLT, ])); (try simp +contextual (disch := omega) only [Z2, ]); (repeat' (first | (with_reducible intro h) | (with_reducible refine And.intro (by omega) ?_) | (with_reducible refine exP (by omega) ?_) | (with_reducible apply And.intro))))
  have b2 : (frm P1.err (fun i => takeW ts i wDot) P1.at).at ≤ ts.length := frm_bd (ba_take _ _) b1
  refine callS.of (w75 hK P1.at b1 P1.err wDot rp _ (h2 _)) ?_
  rintro _ _ rfl _
  rw [hset_set]
  generalize hP2 : frm P1.err (fun i => takeW ts i wDot) P1.at = P2 at *
  ((try with_reducible refine mkQI ?_); (repeat ((first | (with_reducible refine mkQU ?_) | simp only [brGen]); try simp (maxSteps := 2000000) only [↓ S2, S2, vIte, ↓reduceIte, Int.reduceNe, Nat.reduceEqDiff, reduceCtorEq, Nat.reduceLeDiff, Nat.reduceAdd, Nat.reduceLT, ])); (try simp +contextual (disch := omega) only [Z2, ]); (repeat' (first | (with_reducible intro h) | (with_reducible refine And.intro (by omega) ?_) | (with_reducible refine exP (by omega) ?_) | (with_reducible apply And.intro))))
  have b3 : (frm P2.err (nameP ts) P2.at).at ≤ ts.length := frm_bd (ba_name _) b2
  refine callS.of (w151 hK P2.at b2 P2.err rp _ (h2 _)) ?_
  rintro _ _ ⟨rfl, rfl⟩ _
  rw [hset_set]
  generalize hP3 : frm P2.err (nameP ts) P2.at = P3 at *
  ((try with_reducible refine mkQI ?_); (repeat ((first | (with_reducible refine mkQU ?_) | simp only [brGen]); try simp (maxSteps := 2000000) only [↓ S2, S2, vIte, ↓reduceIte, Int.reduceNe, Nat.reduceEqDiff, reduceCtorEq, Nat.reduceLeDiff, Nat.reduceAdd, Nat.reduceLT, ])); (try simp +contextual (disch := omega) only [Z2, ]); (repeat' (first | (with_reducible intro h) | (with_reducible refine And.intro (by omega) ?_) | (with_reducible refine exP (by omega) ?_) | (with_reducible apply And.intro))))
  have b4 : (frm P3.err (fun i => takeW ts i wOf) P3.at).at ≤ ts.length := frm_bd (ba_take _ _) b3
  refine callS.of (w75 hK P3.at b3 P3.err wOf rp _ (h2 _)) ?_
  rintro _ _ rfl _
  rw [hset_set]
  generalize hP4 : frm P3.err (fun i => takeW ts i wOf) P3.at = P4 at *
  ((try with_reducible refine mkQI ?_); (repeat ((first | (with_reducible refine mkQU ?_) | simp only [brGen]); try simp (maxSteps := 2000000) only [↓ S2, S2, vIte, ↓reduceIte, Int.reduceNe, Nat.reduceEqDiff, reduceCtorEq, Nat.reduceLeDiff, Nat.reduceAdd, Nat.reduceLT, ])); (try simp +contextual (disch := omega) only [Z2, ]); (repeat' (first | (with_reducible intro h) | (with_reducible refine And.intro (by omega) ?_) | (with_reducible refine exP (by omega) ?_) | (with_reducible apply And.intro))))
  rw [frm_f] at hP1
  rw [frm_bind] at hP2 hP3 hP4
  have hlt : P4.err = false → i < P4.at := by
    subst hP4 hP3 hP2
    cases hq : nameP ts i with
    | bad k => rw [← hP1, hq]; intro h; cases h
    | ok s k =>
      rw [← hP1, hq]
      intro _
      obtain rfl := name_nx hq
      exact ((((ba_take (i + 1) wDot).bind fun _ _ => ba_name _).bind fun _ _ => ba_take _ _) hi1).1
  refine callS.of (hA P4.at P4.err rp _ hlt b4 (h2 _)) ?_
  rintro _ _ ⟨e, r, rfl, rfl, he⟩ hn
  rw [hset_set] at hn ⊢
  have hrp : r ≠ rp := ne_of_new hn (h2 _)
  generalize hP5 : frm P4.err (rA ts) P4.at = P5 at *
  replace hn := neH_of hn
  (replace hn := hn; simp only [neH_cons, neH_nil, neA_cons, neA_nil, and_true, true_and] at hn)
  ((try with_reducible refine mkQI ?_); (repeat ((first | (with_reducible refine mkQU ?_) | simp only [brGen]); try simp (maxSteps := 2000000) only [↓ S2, S2, vIte, ↓reduceIte, Int.reduceNe, Nat.reduceEqDiff, reduceCtorEq, Nat.reduceLeDiff, Nat.reduceAdd, Nat.reduceLT, hn, hrp])); (try simp +contextual (disch := omega) only [Z2, hn, hrp]); (repeat' (first | (with_reducible intro h) | (with_reducible refine And.intro (by omega) ?_) | (with_reducible refine exP (by omega) ?_) | (with_reducible apply And.intro))))
  rename_i q
  have hqr : q ≠ r := (by intro hh; subst hh; simp [names] at h)
  rw [frm_bind] at hP5
  have hS : StP P5 R := by
    subst hR hP5 hP4 hP3 hP2 hP1
    simp only [bind_as]
    exact StP.bind _ fun _ j => StP.bind _ fun _ j => StP.bind _ fun _ j => StP.bind _ fun _ j => StP.last _ _
  refine .inr (.inr (.inl ⟨PR.val noS P1, PR.val noS P3, e, r, q, hqr, rfl, by rw [hS.1, hS.2], ?_⟩))
  subst hR
  intro x j hx
  obtain ⟨s, m, q1, hx⟩ := bind_ok hx
  obtain ⟨u, k, q2, hx⟩ := bind_ok hx
  obtain ⟨n, p, q3, hx⟩ := bind_ok hx
  obtain ⟨u2, o, q4, hx⟩ := bind_ok hx
  obtain ⟨e2, o2, q5, hx⟩ := bind_ok hx
  have f1 : P1 = .ok s m := by rw [← hP1]; exact q1
  have f2 : P2 = .ok u k := by rw [← hP2, f1]; exact q2
  have f3 : P3 = .ok n p := by rw [← hP3, f2]; exact q3
  have f4 : P4 = .ok u2 o := by rw [← hP4, f3]; exact q4
  have f5 : P5 = .ok e2 o2 := by rw [← hP5, f4]; exact q5
  cases hx
  rw [he _ _ f5, f1, f3]
  rfl
end Go.Proofs.YtkmedfejmndmjaaGreatDoor

namespace Go.Proofs.YtkmedfejmndmjaaGreatDoor
open Go.Gh
set_option maxRecDepth 20000
set_option linter.unusedSimpArgs false
set_option linter.unusedVariables false
open Go.Lib
theorem Tryz.isW_txt {t : Go.Gh.Tok} {w : ByteArray} (h : isW t w = true) : t.text = w := by
  unfold isW at h
  simp only [Bool.and_eq_true, decide_eq_true_eq] at h
  exact h.2
theorem Tryz.funO_nn (s : ByteArray) : 0 ≤ funO s := by
  unfold funO
  split
  · decide
  · split
    · decide
    · split
      · decide
      · split <;> decide
set_option maxHeartbeats 4000000 in
theorem Tryz.satomT {ts : List Go.Gh.Tok} {nE : Int} (hK : OkR ts nE) (i : Nat) (hi : i ≤ ts.length) (rp : Nat) (H : GH) (hr : hget H rp = some (4, [SpG ts nE i true])) : GCalls Tryz.prog 106 [.ptr rp 4 0 0] H (EP (SpG ts nE) (.bad i) rp H) := by
  refine EP.of ?_
  have hg := hK.ge i
  refine gstart mxd i106 rfl (by simp) ?_; simp (maxSteps := 2000000) only [↓ S2, S2, vIte, ↓reduceIte, Int.reduceNe, Nat.reduceEqDiff, reduceCtorEq, Nat.reduceLeDiff, Nat.reduceAdd, Nat.reduceLT]
  ((try with_reducible refine mkQI ?_); (repeat ((first | (with_reducible refine mkQU ?_) | simp only [brGen]); try simp (maxSteps := 2000000) only [↓ S2, S2, vIte, ↓reduceIte, Int.reduceNe, Nat.reduceEqDiff, reduceCtorEq, Nat.reduceLeDiff, Nat.reduceAdd, Nat.reduceLT, hr, bdO_t, hg, decide_true, decide_false])); (try simp +contextual (disch := omega) only [Z2, hr, bdO_t, hg, decide_true, decide_false]); (repeat' (first | (with_reducible intro h) | (with_reducible refine And.intro (by omega) ?_) | (with_reducible refine exP (by omega) ?_) | (with_reducible apply And.intro))))
  refine callS.of (w39 hK i hi true rp H hr) ?_
  rintro _ _ ⟨rfl, rfl⟩ _
  ((try with_reducible refine mkQI ?_); (repeat ((first | (with_reducible refine mkQU ?_) | simp only [brGen]); try simp (maxSteps := 2000000) only [↓ S2, S2, vIte, ↓reduceIte, Int.reduceNe, Nat.reduceEqDiff, reduceCtorEq, Nat.reduceLeDiff, Nat.reduceAdd, Nat.reduceLT, ])); (try simp +contextual (disch := omega) only [Z2, ]); (repeat' (first | (with_reducible intro h) | (with_reducible refine And.intro (by omega) ?_) | (with_reducible refine exP (by omega) ?_) | (with_reducible apply And.intro))))
  all_goals exact .inr (.inl ⟨(.mk 0 0 0 0 noS noS []), rfl, rfl, rfl, fun a j h => (by cases h)⟩)
set_option maxHeartbeats 16000000 in
theorem Tryz.satomS {ts : List Go.Gh.Tok} {nE : Int} (hK : OkR ts nE) (i : Nat) (hi : i ≤ ts.length)
    (hE : ∀ (j : Nat) (b : Bool) (rp : Nat) (H : GH), i < j → j ≤ ts.length → hget H rp = some (4, [SpG ts nE j b]) → GCalls Tryz.prog 38 [.ptr rp 4 0 0] H (EP (SpG ts nE) (frm b (rE ts) j) rp H))
    (hA : ∀ (j : Nat) (b : Bool) (rp : Nat) (H : GH), i < j → j ≤ ts.length → hget H rp = some (4, [SpG ts nE j b]) → GCalls Tryz.prog 106 [.ptr rp 4 0 0] H (EP (SpG ts nE) (frm b (rA ts) j) rp H))
    (b : Bool) (rp : Nat) (H : GH) (hr : hget H rp = some (4, [SpG ts nE i b])) : GCalls Tryz.prog 106 [.ptr rp 4 0 0] H (EP (SpG ts nE) (frm b (rA ts) i) rp H) := by
  cases b with
  | true => exact Tryz.satomT hK i hi rp H hr
  | false =>
    have hl := hK.len
    generalize hR : frm false (rA ts) i = R
    have hbad : R = .bad i → EN (SpG ts nE) R rp H (ExN (.mk 0 0 0 0 noS noS [])) (hset H rp [SpG ts nE i true]) := fun h => by subst h; exact ⟨_, rfl, rfl, rfl, fun a j h => by cases h⟩
    refine EP.of ?_
    have hfail := w39 hK i hi false rp H hr
    have h2 : ∀ fs, hget (hset H rp fs) rp = some (4, fs) := fun fs => hget_set hr
    rw [frm_f, rA_eq hi] at hR
    rcases Nat.lt_or_ge i ts.length with hlt | hG
    · have hL : ¬ ts.length ≤ i := by omega
      have hi1 : i + 1 ≤ ts.length := hlt
      have hgd : ts.getD i tokZ = ts[i] := getD_lt hlt
      have hsz := (hK.txt _ (List.getElem_mem hlt)).2
      have hm : ts[i].text.size ≤ maxLen := by simp only [maxLen, size_chars]; omega
      unfold atomP at hR
      dsimp only at hR
      rw [if_neg (not_not_intro hlt)] at hR
      rw [hgd] at hR
      by_cases hk : ts[i].kind = 2
      · have hkk : ((ts[i].kind = 2) = True) := eq_true hk
        rw [if_pos hk] at hR
        refine gstart mxd i106 rfl (by simp) ?_; simp (maxSteps := 2000000) only [↓ S2, S2, vIte, ↓reduceIte, Int.reduceNe, Nat.reduceEqDiff, reduceCtorEq, Nat.reduceLeDiff, Nat.reduceAdd, Nat.reduceLT]
        ((try with_reducible refine mkQI ?_); (repeat ((first | (with_reducible refine mkQU ?_) | simp only [brGen]); try simp (maxSteps := 2000000) only [↓ S2, S2, vIte, ↓reduceIte, Int.reduceNe, Nat.reduceEqDiff, reduceCtorEq, Nat.reduceLeDiff, Nat.reduceAdd, Nat.reduceLT, hr, bdO_f, m1lt, m1ge, hlt, hL, hkk, decide_true, decide_false])); (try simp +contextual (disch := omega) only [Z2, hr, bdO_f, m1lt, m1ge, hlt, hL, hkk, decide_true, decide_false]); (repeat' (first | (with_reducible intro h) | (with_reducible refine And.intro (by omega) ?_) | (with_reducible refine exP (by omega) ?_) | (with_reducible apply And.intro))))
        refine callS.eq (v130 _ _) ?_
        ((try with_reducible refine mkQI ?_); (repeat ((first | (with_reducible refine mkQU ?_) | simp only [brGen]); try simp (maxSteps := 2000000) only [↓ S2, S2, vIte, ↓reduceIte, Int.reduceNe, Nat.reduceEqDiff, reduceCtorEq, Nat.reduceLeDiff, Nat.reduceAdd, Nat.reduceLT, ])); (try simp +contextual (disch := omega) only [Z2, ]); (repeat' (first | (with_reducible intro h) | (with_reducible refine And.intro (by omega) ?_) | (with_reducible refine exP (by omega) ?_) | (with_reducible apply And.intro))))
        refine callS.of (w129 hK i hlt (conE ts[i].num 1) rp H hr) ?_
        rintro _ _ ⟨rfl, rfl⟩ _
        ((try with_reducible refine mkQI ?_); (repeat ((first | (with_reducible refine mkQU ?_) | simp only [brGen]); try simp (maxSteps := 2000000) only [↓ S2, S2, vIte, ↓reduceIte, Int.reduceNe, Nat.reduceEqDiff, reduceCtorEq, Nat.reduceLeDiff, Nat.reduceAdd, Nat.reduceLT, ])); (try simp +contextual (disch := omega) only [Z2, ]); (repeat' (first | (with_reducible intro h) | (with_reducible refine And.intro (by omega) ?_) | (with_reducible refine exP (by omega) ?_) | (with_reducible apply And.intro))))
        all_goals (subst hR; exact .inr (.inl ⟨conE ts[i].num 1, rfl, rfl, rfl, fun a j h => by cases h; rfl⟩))
      · have hkk : ((ts[i].kind = 2) = False) := eq_false hk
        rw [if_neg hk] at hR
        refine gstart mxd i106 rfl (by simp) ?_; simp (maxSteps := 2000000) only [↓ S2, S2, vIte, ↓reduceIte, Int.reduceNe, Nat.reduceEqDiff, reduceCtorEq, Nat.reduceLeDiff, Nat.reduceAdd, Nat.reduceLT]
        ((try with_reducible refine mkQI ?_); (repeat ((first | (with_reducible refine mkQU ?_) | simp only [brGen]); try simp (maxSteps := 2000000) only [↓ S2, S2, vIte, ↓reduceIte, Int.reduceNe, Nat.reduceEqDiff, reduceCtorEq, Nat.reduceLeDiff, Nat.reduceAdd, Nat.reduceLT, hr, bdO_f, m1lt, m1ge, hlt, hL, hkk, decide_true, decide_false])); (try simp +contextual (disch := omega) only [Z2, hr, bdO_f, m1lt, m1ge, hlt, hL, hkk, decide_true, decide_false]); (repeat' (first | (with_reducible intro h) | (with_reducible refine And.intro (by omega) ?_) | (with_reducible refine exP (by omega) ?_) | (with_reducible apply And.intro))))
        refine callS.eq (w105 ts[i] wLB) ?_
        cases hq0 : isW ts[i] wLB with
        | true =>
          rw [if_pos hq0] at hR
          ((try with_reducible refine mkQI ?_); (repeat ((first | (with_reducible refine mkQU ?_) | simp only [brGen]); try simp (maxSteps := 2000000) only [↓ S2, S2, vIte, ↓reduceIte, Int.reduceNe, Nat.reduceEqDiff, reduceCtorEq, Nat.reduceLeDiff, Nat.reduceAdd, Nat.reduceLT, ])); (try simp +contextual (disch := omega) only [Z2, ]); (repeat' (first | (with_reducible intro h) | (with_reducible refine And.intro (by omega) ?_) | (with_reducible refine exP (by omega) ?_) | (with_reducible apply And.intro))))
          refine callS.of (o131 hK i hlt rp H hr) ?_
          rintro g H' ⟨e, r, rfl, rfl, he⟩ hn
          ((try with_reducible refine mkQI ?_); (repeat ((first | (with_reducible refine mkQU ?_) | simp only [brGen]); try simp (maxSteps := 2000000) only [↓ S2, S2, vIte, ↓reduceIte, Int.reduceNe, Nat.reduceEqDiff, reduceCtorEq, Nat.reduceLeDiff, Nat.reduceAdd, Nat.reduceLT, ])); (try simp +contextual (disch := omega) only [Z2, ]); (repeat' (first | (with_reducible intro h) | (with_reducible refine And.intro (by omega) ?_) | (with_reducible refine exP (by omega) ?_) | (with_reducible apply And.intro))))
          all_goals (subst hR; exact .inl ⟨e, r, rfl, rfl, he⟩)
        | false =>
          rw [if_neg (by rw [hq0]; decide)] at hR
          ((try with_reducible refine mkQI ?_); (repeat ((first | (with_reducible refine mkQU ?_) | simp only [brGen]); try simp (maxSteps := 2000000) only [↓ S2, S2, vIte, ↓reduceIte, Int.reduceNe, Nat.reduceEqDiff, reduceCtorEq, Nat.reduceLeDiff, Nat.reduceAdd, Nat.reduceLT, ])); (try simp +contextual (disch := omega) only [Z2, ]); (repeat' (first | (with_reducible intro h) | (with_reducible refine And.intro (by omega) ?_) | (with_reducible refine exP (by omega) ?_) | (with_reducible apply And.intro))))
          refine callS.eq (w105 ts[i] wTrue) ?_
          cases hq1 : isW ts[i] wTrue with
          | true =>
            rw [if_pos hq1] at hR
            ((try with_reducible refine mkQI ?_); (repeat ((first | (with_reducible refine mkQU ?_) | simp only [brGen]); try simp (maxSteps := 2000000) only [↓ S2, S2, vIte, ↓reduceIte, Int.reduceNe, Nat.reduceEqDiff, reduceCtorEq, Nat.reduceLeDiff, Nat.reduceAdd, Nat.reduceLT, ])); (try simp +contextual (disch := omega) only [Z2, ]); (repeat' (first | (with_reducible intro h) | (with_reducible refine And.intro (by omega) ?_) | (with_reducible refine exP (by omega) ?_) | (with_reducible apply And.intro))))
            have htx := Tryz.isW_txt hq1
            have ht3 : decide (ts[i].text = ⟨#[116, 114, 117, 101]⟩) = true := decide_eq_true htx
            refine callS.eq (w132 _) ?_
            rw [ht3]
            ((try with_reducible refine mkQI ?_); (repeat ((first | (with_reducible refine mkQU ?_) | simp only [brGen]); try simp (maxSteps := 2000000) only [↓ S2, S2, vIte, ↓reduceIte, Int.reduceNe, Nat.reduceEqDiff, reduceCtorEq, Nat.reduceLeDiff, Nat.reduceAdd, Nat.reduceLT, ])); (try simp +contextual (disch := omega) only [Z2, ]); (repeat' (first | (with_reducible intro h) | (with_reducible refine And.intro (by omega) ?_) | (with_reducible refine exP (by omega) ?_) | (with_reducible apply And.intro))))
            refine callS.eq (v130 _ _) ?_
            ((try with_reducible refine mkQI ?_); (repeat ((first | (with_reducible refine mkQU ?_) | simp only [brGen]); try simp (maxSteps := 2000000) only [↓ S2, S2, vIte, ↓reduceIte, Int.reduceNe, Nat.reduceEqDiff, reduceCtorEq, Nat.reduceLeDiff, Nat.reduceAdd, Nat.reduceLT, ])); (try simp +contextual (disch := omega) only [Z2, ]); (repeat' (first | (with_reducible intro h) | (with_reducible refine And.intro (by omega) ?_) | (with_reducible refine exP (by omega) ?_) | (with_reducible apply And.intro))))
            refine callS.of (w129 hK i hlt (conE 1 3) rp H hr) ?_
            rintro _ _ ⟨rfl, rfl⟩ _
            ((try with_reducible refine mkQI ?_); (repeat ((first | (with_reducible refine mkQU ?_) | simp only [brGen]); try simp (maxSteps := 2000000) only [↓ S2, S2, vIte, ↓reduceIte, Int.reduceNe, Nat.reduceEqDiff, reduceCtorEq, Nat.reduceLeDiff, Nat.reduceAdd, Nat.reduceLT, ])); (try simp +contextual (disch := omega) only [Z2, ]); (repeat' (first | (with_reducible intro h) | (with_reducible refine And.intro (by omega) ?_) | (with_reducible refine exP (by omega) ?_) | (with_reducible apply And.intro))))
            all_goals (subst hR; exact .inr (.inl ⟨conE 1 3, rfl, rfl, rfl, fun a j h => by cases h; rfl⟩))
          | false =>
            rw [if_neg (by rw [hq1]; decide)] at hR
            ((try with_reducible refine mkQI ?_); (repeat ((first | (with_reducible refine mkQU ?_) | simp only [brGen]); try simp (maxSteps := 2000000) only [↓ S2, S2, vIte, ↓reduceIte, Int.reduceNe, Nat.reduceEqDiff, reduceCtorEq, Nat.reduceLeDiff, Nat.reduceAdd, Nat.reduceLT, ])); (try simp +contextual (disch := omega) only [Z2, ]); (repeat' (first | (with_reducible intro h) | (with_reducible refine And.intro (by omega) ?_) | (with_reducible refine exP (by omega) ?_) | (with_reducible apply And.intro))))
            refine callS.eq (w105 ts[i] wFalse) ?_
            cases hq2 : isW ts[i] wFalse with
            | true =>
              rw [if_pos hq2] at hR
              ((try with_reducible refine mkQI ?_); (repeat ((first | (with_reducible refine mkQU ?_) | simp only [brGen]); try simp (maxSteps := 2000000) only [↓ S2, S2, vIte, ↓reduceIte, Int.reduceNe, Nat.reduceEqDiff, reduceCtorEq, Nat.reduceLeDiff, Nat.reduceAdd, Nat.reduceLT, ])); (try simp +contextual (disch := omega) only [Z2, ]); (repeat' (first | (with_reducible intro h) | (with_reducible refine And.intro (by omega) ?_) | (with_reducible refine exP (by omega) ?_) | (with_reducible apply And.intro))))
              have htx := Tryz.isW_txt hq2
              have ht3 : decide (ts[i].text = ⟨#[116, 114, 117, 101]⟩) = false := decide_eq_false (by rw [htx]; decide)
              refine callS.eq (w132 _) ?_
              rw [ht3]
              ((try with_reducible refine mkQI ?_); (repeat ((first | (with_reducible refine mkQU ?_) | simp only [brGen]); try simp (maxSteps := 2000000) only [↓ S2, S2, vIte, ↓reduceIte, Int.reduceNe, Nat.reduceEqDiff, reduceCtorEq, Nat.reduceLeDiff, Nat.reduceAdd, Nat.reduceLT, ])); (try simp +contextual (disch := omega) only [Z2, ]); (repeat' (first | (with_reducible intro h) | (with_reducible refine And.intro (by omega) ?_) | (with_reducible refine exP (by omega) ?_) | (with_reducible apply And.intro))))
              refine callS.eq (v130 _ _) ?_
              ((try with_reducible refine mkQI ?_); (repeat ((first | (with_reducible refine mkQU ?_) | simp only [brGen]); try simp (maxSteps := 2000000) only [↓ S2, S2, vIte, ↓reduceIte, Int.reduceNe, Nat.reduceEqDiff, reduceCtorEq, Nat.reduceLeDiff, Nat.reduceAdd, Nat.reduceLT, ])); (try simp +contextual (disch := omega) only [Z2, ]); (repeat' (first | (with_reducible intro h) | (with_reducible refine And.intro (by omega) ?_) | (with_reducible refine exP (by omega) ?_) | (with_reducible apply And.intro))))
              refine callS.of (w129 hK i hlt (conE 0 3) rp H hr) ?_
              rintro _ _ ⟨rfl, rfl⟩ _
              ((try with_reducible refine mkQI ?_); (repeat ((first | (with_reducible refine mkQU ?_) | simp only [brGen]); try simp (maxSteps := 2000000) only [↓ S2, S2, vIte, ↓reduceIte, Int.reduceNe, Nat.reduceEqDiff, reduceCtorEq, Nat.reduceLeDiff, Nat.reduceAdd, Nat.reduceLT, ])); (try simp +contextual (disch := omega) only [Z2, ]); (repeat' (first | (with_reducible intro h) | (with_reducible refine And.intro (by omega) ?_) | (with_reducible refine exP (by omega) ?_) | (with_reducible apply And.intro))))
              all_goals (subst hR; exact .inr (.inl ⟨conE 0 3, rfl, rfl, rfl, fun a j h => by cases h; rfl⟩))
            | false =>
              rw [if_neg (by rw [hq2]; decide)] at hR
              ((try with_reducible refine mkQI ?_); (repeat ((first | (with_reducible refine mkQU ?_) | simp only [brGen]); try simp (maxSteps := 2000000) only [↓ S2, S2, vIte, ↓reduceIte, Int.reduceNe, Nat.reduceEqDiff, reduceCtorEq, Nat.reduceLeDiff, Nat.reduceAdd, Nat.reduceLT, ])); (try simp +contextual (disch := omega) only [Z2, ]); (repeat' (first | (with_reducible intro h) | (with_reducible refine And.intro (by omega) ?_) | (with_reducible refine exP (by omega) ?_) | (with_reducible apply And.intro))))
              refine callS.eq (w105 ts[i] wLit) ?_
              cases hq3 : isW ts[i] wLit with
              | true =>
                rw [if_pos hq3] at hR
                ((try with_reducible refine mkQI ?_); (repeat ((first | (with_reducible refine mkQU ?_) | simp only [brGen]); try simp (maxSteps := 2000000) only [↓ S2, S2, vIte, ↓reduceIte, Int.reduceNe, Nat.reduceEqDiff, reduceCtorEq, Nat.reduceLeDiff, Nat.reduceAdd, Nat.reduceLT, ])); (try simp +contextual (disch := omega) only [Z2, ]); (repeat' (first | (with_reducible intro h) | (with_reducible refine And.intro (by omega) ?_) | (with_reducible refine exP (by omega) ?_) | (with_reducible apply And.intro))))
                refine callS.of (w129 hK i hlt (.mk 2 0 0 0 noS noS []) rp H hr) ?_
                rintro _ _ ⟨rfl, rfl⟩ _
                ((try with_reducible refine mkQI ?_); (repeat ((first | (with_reducible refine mkQU ?_) | simp only [brGen]); try simp (maxSteps := 2000000) only [↓ S2, S2, vIte, ↓reduceIte, Int.reduceNe, Nat.reduceEqDiff, reduceCtorEq, Nat.reduceLeDiff, Nat.reduceAdd, Nat.reduceLT, ])); (try simp +contextual (disch := omega) only [Z2, ]); (repeat' (first | (with_reducible intro h) | (with_reducible refine And.intro (by omega) ?_) | (with_reducible refine exP (by omega) ?_) | (with_reducible apply And.intro))))
                all_goals (subst hR; exact .inr (.inl ⟨.mk 2 0 0 0 noS noS [], rfl, rfl, rfl, fun a j h => by cases h; rfl⟩))
              | false =>
                rw [if_neg (by rw [hq3]; decide)] at hR
                ((try with_reducible refine mkQI ?_); (repeat ((first | (with_reducible refine mkQU ?_) | simp only [brGen]); try simp (maxSteps := 2000000) only [↓ S2, S2, vIte, ↓reduceIte, Int.reduceNe, Nat.reduceEqDiff, reduceCtorEq, Nat.reduceLeDiff, Nat.reduceAdd, Nat.reduceLT, ])); (try simp +contextual (disch := omega) only [Z2, ]); (repeat' (first | (with_reducible intro h) | (with_reducible refine And.intro (by omega) ?_) | (with_reducible refine exP (by omega) ?_) | (with_reducible apply And.intro))))
                refine callS.eq (w105 ts[i] wNone) ?_
                cases hq4 : isW ts[i] wNone with
                | true =>
                  rw [if_pos hq4] at hR
                  ((try with_reducible refine mkQI ?_); (repeat ((first | (with_reducible refine mkQU ?_) | simp only [brGen]); try simp (maxSteps := 2000000) only [↓ S2, S2, vIte, ↓reduceIte, Int.reduceNe, Nat.reduceEqDiff, reduceCtorEq, Nat.reduceLeDiff, Nat.reduceAdd, Nat.reduceLT, ])); (try simp +contextual (disch := omega) only [Z2, ]); (repeat' (first | (with_reducible intro h) | (with_reducible refine And.intro (by omega) ?_) | (with_reducible refine exP (by omega) ?_) | (with_reducible apply And.intro))))
                  refine callS.of (w129 hK i hlt (.mk 7 0 0 0 noS noS []) rp H hr) ?_
                  rintro _ _ ⟨rfl, rfl⟩ _
                  ((try with_reducible refine mkQI ?_); (repeat ((first | (with_reducible refine mkQU ?_) | simp only [brGen]); try simp (maxSteps := 2000000) only [↓ S2, S2, vIte, ↓reduceIte, Int.reduceNe, Nat.reduceEqDiff, reduceCtorEq, Nat.reduceLeDiff, Nat.reduceAdd, Nat.reduceLT, ])); (try simp +contextual (disch := omega) only [Z2, ]); (repeat' (first | (with_reducible intro h) | (with_reducible refine And.intro (by omega) ?_) | (with_reducible refine exP (by omega) ?_) | (with_reducible apply And.intro))))
                  all_goals (subst hR; exact .inr (.inl ⟨.mk 7 0 0 0 noS noS [], rfl, rfl, rfl, fun a j h => by cases h; rfl⟩))
                | false =>
                  rw [if_neg (by rw [hq4]; decide)] at hR
                  ((try with_reducible refine mkQI ?_); (repeat ((first | (with_reducible refine mkQU ?_) | simp only [brGen]); try simp (maxSteps := 2000000) only [↓ S2, S2, vIte, ↓reduceIte, Int.reduceNe, Nat.reduceEqDiff, reduceCtorEq, Nat.reduceLeDiff, Nat.reduceAdd, Nat.reduceLT, ])); (try simp +contextual (disch := omega) only [Z2, ]); (repeat' (first | (with_reducible intro h) | (with_reducible refine And.intro (by omega) ?_) | (with_reducible refine exP (by omega) ?_) | (with_reducible apply And.intro))))
                  refine callS.eq (w105 ts[i] wDol) ?_
                  cases hq5 : isW ts[i] wDol with
                  | true =>
                    rw [if_pos hq5] at hR
                    ((try with_reducible refine mkQI ?_); (repeat ((first | (with_reducible refine mkQU ?_) | simp only [brGen]); try simp (maxSteps := 2000000) only [↓ S2, S2, vIte, ↓reduceIte, Int.reduceNe, Nat.reduceEqDiff, reduceCtorEq, Nat.reduceLeDiff, Nat.reduceAdd, Nat.reduceLT, ])); (try simp +contextual (disch := omega) only [Z2, ]); (repeat' (first | (with_reducible intro h) | (with_reducible refine And.intro (by omega) ?_) | (with_reducible refine exP (by omega) ?_) | (with_reducible apply And.intro))))
                    refine callS.of (e133 hK i hlt rp H hr) ?_
                    rintro g H' ⟨e, r, rfl, rfl, he⟩ hn
                    ((try with_reducible refine mkQI ?_); (repeat ((first | (with_reducible refine mkQU ?_) | simp only [brGen]); try simp (maxSteps := 2000000) only [↓ S2, S2, vIte, ↓reduceIte, Int.reduceNe, Nat.reduceEqDiff, reduceCtorEq, Nat.reduceLeDiff, Nat.reduceAdd, Nat.reduceLT, ])); (try simp +contextual (disch := omega) only [Z2, ]); (repeat' (first | (with_reducible intro h) | (with_reducible refine And.intro (by omega) ?_) | (with_reducible refine exP (by omega) ?_) | (with_reducible apply And.intro))))
                    all_goals (subst hR; exact .inl ⟨e, r, rfl, rfl, he⟩)
                  | false =>
                    rw [if_neg (by rw [hq5]; decide)] at hR
                    ((try with_reducible refine mkQI ?_); (repeat ((first | (with_reducible refine mkQU ?_) | simp only [brGen]); try simp (maxSteps := 2000000) only [↓ S2, S2, vIte, ↓reduceIte, Int.reduceNe, Nat.reduceEqDiff, reduceCtorEq, Nat.reduceLeDiff, Nat.reduceAdd, Nat.reduceLT, ])); (try simp +contextual (disch := omega) only [Z2, ]); (repeat' (first | (with_reducible intro h) | (with_reducible refine And.intro (by omega) ?_) | (with_reducible refine exP (by omega) ?_) | (with_reducible apply And.intro))))
                    refine callS.eq (w105 ts[i] wSelf) ?_
                    cases hq6 : isW ts[i] wSelf with
                    | true =>
                      rw [if_pos hq6] at hR
                      ((try with_reducible refine mkQI ?_); (repeat ((first | (with_reducible refine mkQU ?_) | simp only [brGen]); try simp (maxSteps := 2000000) only [↓ S2, S2, vIte, ↓reduceIte, Int.reduceNe, Nat.reduceEqDiff, reduceCtorEq, Nat.reduceLeDiff, Nat.reduceAdd, Nat.reduceLT, ])); (try simp +contextual (disch := omega) only [Z2, ]); (repeat' (first | (with_reducible intro h) | (with_reducible refine And.intro (by omega) ?_) | (with_reducible refine exP (by omega) ?_) | (with_reducible apply And.intro))))
                      refine callS.of (e134 hK i hlt rp H hr) ?_
                      rintro g H' ⟨e, r, rfl, rfl, he⟩ hn
                      ((try with_reducible refine mkQI ?_); (repeat ((first | (with_reducible refine mkQU ?_) | simp only [brGen]); try simp (maxSteps := 2000000) only [↓ S2, S2, vIte, ↓reduceIte, Int.reduceNe, Nat.reduceEqDiff, reduceCtorEq, Nat.reduceLeDiff, Nat.reduceAdd, Nat.reduceLT, ])); (try simp +contextual (disch := omega) only [Z2, ]); (repeat' (first | (with_reducible intro h) | (with_reducible refine And.intro (by omega) ?_) | (with_reducible refine exP (by omega) ?_) | (with_reducible apply And.intro))))
                      all_goals (subst hR; exact .inl ⟨e, r, rfl, rfl, he⟩)
                    | false =>
                      rw [if_neg (by rw [hq6]; decide)] at hR
                      ((try with_reducible refine mkQI ?_); (repeat ((first | (with_reducible refine mkQU ?_) | simp only [brGen]); try simp (maxSteps := 2000000) only [↓ S2, S2, vIte, ↓reduceIte, Int.reduceNe, Nat.reduceEqDiff, reduceCtorEq, Nat.reduceLeDiff, Nat.reduceAdd, Nat.reduceLT, ])); (try simp +contextual (disch := omega) only [Z2, ]); (repeat' (first | (with_reducible intro h) | (with_reducible refine And.intro (by omega) ?_) | (with_reducible refine exP (by omega) ?_) | (with_reducible apply And.intro))))
                      refine callS.eq (w105 ts[i] wLP) ?_
                      cases hq7 : isW ts[i] wLP with
                      | true =>
                        rw [if_pos hq7] at hR
                        ((try with_reducible refine mkQI ?_); (repeat ((first | (with_reducible refine mkQU ?_) | simp only [brGen]); try simp (maxSteps := 2000000) only [↓ S2, S2, vIte, ↓reduceIte, Int.reduceNe, Nat.reduceEqDiff, reduceCtorEq, Nat.reduceLeDiff, Nat.reduceAdd, Nat.reduceLT, ])); (try simp +contextual (disch := omega) only [Z2, ]); (repeat' (first | (with_reducible intro h) | (with_reducible refine And.intro (by omega) ?_) | (with_reducible refine exP (by omega) ?_) | (with_reducible apply And.intro))))
                        ((try with_reducible refine mkQI ?_); (repeat ((first | (with_reducible refine mkQU ?_) | simp only [brGen]); try simp (maxSteps := 2000000) only [↓ S2, S2, vIte, ↓reduceIte, Int.reduceNe, Nat.reduceEqDiff, reduceCtorEq, Nat.reduceLeDiff, Nat.reduceAdd, Nat.reduceLT, hr, bdO_f, m1lt, m1ge])); (try simp +contextual (disch := omega) only [Z2, hr, bdO_f, m1lt, m1ge]); (repeat' (first | (with_reducible intro h) | (with_reducible refine And.intro (by omega) ?_) | (with_reducible refine exP (by omega) ?_) | (with_reducible apply And.intro))))
                        rw [show hset H rp [.agg [TkS ts, I ((i : Int) + 1), I nE, I (-1)]] = hset H rp [SpG ts nE (i + 1) false] from rfl]
                        have bE : (frm false (rE ts) (i + 1)).at ≤ ts.length := frm_bd (rE_bd _) hi1
                        refine callS.of (hE (i + 1) false rp _ (Nat.lt_succ_self i) hi1 (h2 _)) ?_
                        rintro _ _ ⟨e, r, rfl, rfl, he⟩ hn
                        rw [hset_set] at hn ⊢
                        have hrp : r ≠ rp := ne_of_new hn (h2 _)
                        generalize hP1 : frm false (rE ts) (i + 1) = P1 at *
                        ((try with_reducible refine mkQI ?_); (repeat ((first | (with_reducible refine mkQU ?_) | simp only [brGen]); try simp (maxSteps := 2000000) only [↓ S2, S2, vIte, ↓reduceIte, Int.reduceNe, Nat.reduceEqDiff, reduceCtorEq, Nat.reduceLeDiff, Nat.reduceAdd, Nat.reduceLT, hrp])); (try simp +contextual (disch := omega) only [Z2, hrp]); (repeat' (first | (with_reducible intro h) | (with_reducible refine And.intro (by omega) ?_) | (with_reducible refine exP (by omega) ?_) | (with_reducible apply And.intro))))
                        refine callS.of (w75 hK P1.at bE P1.err wRP rp _ (by rw [hget_old hrp]; exact h2 _)) ?_
                        rintro _ _ rfl _
                        rw [hset_old hrp, hset_set]
                        generalize hP2 : frm P1.err (fun i => takeW ts i wRP) P1.at = P2 at *
                        ((try with_reducible refine mkQI ?_); (repeat ((first | (with_reducible refine mkQU ?_) | simp only [brGen]); try simp (maxSteps := 2000000) only [↓ S2, S2, vIte, ↓reduceIte, Int.reduceNe, Nat.reduceEqDiff, reduceCtorEq, Nat.reduceLeDiff, Nat.reduceAdd, Nat.reduceLT, hrp])); (try simp +contextual (disch := omega) only [Z2, hrp]); (repeat' (first | (with_reducible intro h) | (with_reducible refine And.intro (by omega) ?_) | (with_reducible refine exP (by omega) ?_) | (with_reducible apply And.intro))))
                        rw [frm_f] at hP1
                        rw [frm_bind] at hP2
                        have hS : StP P2 R := by
                          subst hR hP2 hP1
                          exact StP.bind _ fun _ j => StP.last _ _
                        all_goals (
                          refine .inl ⟨e, r, rfl, by rw [hS.1, hS.2], ?_⟩
                          subst hR
                          intro a j hx
                          obtain ⟨u, m, q1, hx⟩ := bind_ok hx
                          obtain ⟨v, q, q3, hx⟩ := bind_ok hx
                          cases hx
                          exact he _ _ (hP1 ▸ q1))
                      | false =>
                        rw [if_neg (by rw [hq7]; decide)] at hR
                        by_cases hk1 : ts[i].kind = 1
                        · have hk1' : (ts[i].kind = 1) = True := eq_true hk1
                          ((try with_reducible refine mkQI ?_); (repeat ((first | (with_reducible refine mkQU ?_) | simp only [brGen]); try simp (maxSteps := 2000000) only [↓ S2, S2, vIte, ↓reduceIte, Int.reduceNe, Nat.reduceEqDiff, reduceCtorEq, Nat.reduceLeDiff, Nat.reduceAdd, Nat.reduceLT, hk1', decide_true, decide_false])); (try simp +contextual (disch := omega) only [Z2, hk1', decide_true, decide_false]); (repeat' (first | (with_reducible intro h) | (with_reducible refine And.intro (by omega) ?_) | (with_reducible refine exP (by omega) ?_) | (with_reducible apply And.intro))))
                          refine callS.eq (w135 _) ?_
                          by_cases hf : funO ts[i].text = 0
                          · rw [if_neg (fun h => h.2 hf)] at hR
                            have hf' : (0 < funO ts[i].text) = False := eq_false (by omega)
                            ((try with_reducible refine mkQI ?_); (repeat ((first | (with_reducible refine mkQU ?_) | simp only [brGen]); try simp (maxSteps := 2000000) only [↓ S2, S2, vIte, ↓reduceIte, Int.reduceNe, Nat.reduceEqDiff, reduceCtorEq, Nat.reduceLeDiff, Nat.reduceAdd, Nat.reduceLT, hf', hk1', decide_true, decide_false])); (try simp +contextual (disch := omega) only [Z2, hf', hk1', decide_true, decide_false]); (repeat' (first | (with_reducible intro h) | (with_reducible refine And.intro (by omega) ?_) | (with_reducible refine exP (by omega) ?_) | (with_reducible apply And.intro))))
                            refine callS.eq (w95 _ hm) ?_
                            by_cases hv : nameV ts[i].text = true
                            · ((try with_reducible refine mkQI ?_); (repeat ((first | (with_reducible refine mkQU ?_) | simp only [brGen]); try simp (maxSteps := 2000000) only [↓ S2, S2, vIte, ↓reduceIte, Int.reduceNe, Nat.reduceEqDiff, reduceCtorEq, Nat.reduceLeDiff, Nat.reduceAdd, Nat.reduceLT, hv])); (try simp +contextual (disch := omega) only [Z2, hv]); (repeat' (first | (with_reducible intro h) | (with_reducible refine And.intro (by omega) ?_) | (with_reducible refine exP (by omega) ?_) | (with_reducible apply And.intro))))
                              have hA' : ∀ (j : Nat) (b : Bool) (rp : Nat) (H : GH), (b = false → i < j) → j ≤ ts.length → hget H rp = some (4, [SpG ts nE j b]) → GCalls Tryz.prog 106 [.ptr rp 4 0 0] H (EP (SpG ts nE) (frm b (rA ts) j) rp H) := by
                                intro j b rp H h1 h2 h3
                                cases b with
                                | true => exact Tryz.satomT hK j h2 rp H h3
                                | false => exact hA j false rp H (h1 rfl) h2 h3
                              refine callS.of (e137 hK i hlt hA' rp H hr) ?_
                              rintro g H' ⟨e, r, rfl, rfl, he⟩ hn
                              ((try with_reducible refine mkQI ?_); (repeat ((first | (with_reducible refine mkQU ?_) | simp only [brGen]); try simp (maxSteps := 2000000) only [↓ S2, S2, vIte, ↓reduceIte, Int.reduceNe, Nat.reduceEqDiff, reduceCtorEq, Nat.reduceLeDiff, Nat.reduceAdd, Nat.reduceLT, ])); (try simp +contextual (disch := omega) only [Z2, ]); (repeat' (first | (with_reducible intro h) | (with_reducible refine And.intro (by omega) ?_) | (with_reducible refine exP (by omega) ?_) | (with_reducible apply And.intro))))
                              all_goals (subst hR; exact .inl ⟨e, r, rfl, rfl, he⟩)
                            · have hv' : nameV ts[i].text = false := Bool.eq_false_iff.2 hv
                              have e : nameP ts i = .bad i := by unfold nameP; rw [getD_lt hlt, if_neg (fun hc => hv hc.2.2)]
                              rw [e] at hR
                              ((try with_reducible refine mkQI ?_); (repeat ((first | (with_reducible refine mkQU ?_) | simp only [brGen]); try simp (maxSteps := 2000000) only [↓ S2, S2, vIte, ↓reduceIte, Int.reduceNe, Nat.reduceEqDiff, reduceCtorEq, Nat.reduceLeDiff, Nat.reduceAdd, Nat.reduceLT, hv'])); (try simp +contextual (disch := omega) only [Z2, hv']); (repeat' (first | (with_reducible intro h) | (with_reducible refine And.intro (by omega) ?_) | (with_reducible refine exP (by omega) ?_) | (with_reducible apply And.intro))))
                              refine callS.of hfail ?_
                              rintro _ _ ⟨rfl, rfl⟩ _
                              ((try with_reducible refine mkQI ?_); (repeat ((first | (with_reducible refine mkQU ?_) | simp only [brGen]); try simp (maxSteps := 2000000) only [↓ S2, S2, vIte, ↓reduceIte, Int.reduceNe, Nat.reduceEqDiff, reduceCtorEq, Nat.reduceLeDiff, Nat.reduceAdd, Nat.reduceLT, ])); (try simp +contextual (disch := omega) only [Z2, ]); (repeat' (first | (with_reducible intro h) | (with_reducible refine And.intro (by omega) ?_) | (with_reducible refine exP (by omega) ?_) | (with_reducible apply And.intro))))
                              all_goals exact .inr (.inl (hbad hR.symm))
                          · have hf0 := Tryz.funO_nn ts[i].text
                            rw [if_pos ⟨hk1, hf⟩] at hR
                            have hf' : (0 < funO ts[i].text) = True := eq_true (by omega)
                            ((try with_reducible refine mkQI ?_); (repeat ((first | (with_reducible refine mkQU ?_) | simp only [brGen]); try simp (maxSteps := 2000000) only [↓ S2, S2, vIte, ↓reduceIte, Int.reduceNe, Nat.reduceEqDiff, reduceCtorEq, Nat.reduceLeDiff, Nat.reduceAdd, Nat.reduceLT, hf', hk1', decide_true, decide_false])); (try simp +contextual (disch := omega) only [Z2, hf', hk1', decide_true, decide_false]); (repeat' (first | (with_reducible intro h) | (with_reducible refine And.intro (by omega) ?_) | (with_reducible refine exP (by omega) ?_) | (with_reducible apply And.intro))))
                            refine callS.eq (w135 _) ?_
                            ((try with_reducible refine mkQI ?_); (repeat ((first | (with_reducible refine mkQU ?_) | simp only [brGen]); try simp (maxSteps := 2000000) only [↓ S2, S2, vIte, ↓reduceIte, Int.reduceNe, Nat.reduceEqDiff, reduceCtorEq, Nat.reduceLeDiff, Nat.reduceAdd, Nat.reduceLT, ])); (try simp +contextual (disch := omega) only [Z2, ]); (repeat' (first | (with_reducible intro h) | (with_reducible refine And.intro (by omega) ?_) | (with_reducible refine exP (by omega) ?_) | (with_reducible apply And.intro))))
                            refine callS.of (e136 hK i hlt (funO ts[i].text) hE rp H hr) ?_
                            rintro g H' ⟨e, r, rfl, rfl, he⟩ hn
                            ((try with_reducible refine mkQI ?_); (repeat ((first | (with_reducible refine mkQU ?_) | simp only [brGen]); try simp (maxSteps := 2000000) only [↓ S2, S2, vIte, ↓reduceIte, Int.reduceNe, Nat.reduceEqDiff, reduceCtorEq, Nat.reduceLeDiff, Nat.reduceAdd, Nat.reduceLT, ])); (try simp +contextual (disch := omega) only [Z2, ]); (repeat' (first | (with_reducible intro h) | (with_reducible refine And.intro (by omega) ?_) | (with_reducible refine exP (by omega) ?_) | (with_reducible apply And.intro))))
                            all_goals (subst hR; exact .inl ⟨e, r, rfl, rfl, he⟩)
                        · have hk1' : (ts[i].kind = 1) = False := eq_false hk1
                          rw [if_neg (fun h => hk1 h.1)] at hR
                          have e : nameP ts i = .bad i := by unfold nameP; rw [getD_lt hlt, if_neg (fun hc => hk1 hc.2.1)]
                          rw [e] at hR
                          ((try with_reducible refine mkQI ?_); (repeat ((first | (with_reducible refine mkQU ?_) | simp only [brGen]); try simp (maxSteps := 2000000) only [↓ S2, S2, vIte, ↓reduceIte, Int.reduceNe, Nat.reduceEqDiff, reduceCtorEq, Nat.reduceLeDiff, Nat.reduceAdd, Nat.reduceLT, hk1', decide_true, decide_false])); (try simp +contextual (disch := omega) only [Z2, hk1', decide_true, decide_false]); (repeat' (first | (with_reducible intro h) | (with_reducible refine And.intro (by omega) ?_) | (with_reducible refine exP (by omega) ?_) | (with_reducible apply And.intro))))
                          refine callS.of hfail ?_
                          rintro _ _ ⟨rfl, rfl⟩ _
                          ((try with_reducible refine mkQI ?_); (repeat ((first | (with_reducible refine mkQU ?_) | simp only [brGen]); try simp (maxSteps := 2000000) only [↓ S2, S2, vIte, ↓reduceIte, Int.reduceNe, Nat.reduceEqDiff, reduceCtorEq, Nat.reduceLeDiff, Nat.reduceAdd, Nat.reduceLT, ])); (try simp +contextual (disch := omega) only [Z2, ]); (repeat' (first | (with_reducible intro h) | (with_reducible refine And.intro (by omega) ?_) | (with_reducible refine exP (by omega) ?_) | (with_reducible apply And.intro))))
                          all_goals exact .inr (.inl (hbad hR.symm))
    · have hx : R = .bad i := by
        unfold atomP at hR
        dsimp only at hR
        rw [if_pos (by omega)] at hR
        exact hR.symm
      have hG' : ts.length ≤ i := hG
      refine gstart mxd i106 rfl (by simp) ?_; simp (maxSteps := 2000000) only [↓ S2, S2, vIte, ↓reduceIte, Int.reduceNe, Nat.reduceEqDiff, reduceCtorEq, Nat.reduceLeDiff, Nat.reduceAdd, Nat.reduceLT]
      ((try with_reducible refine mkQI ?_); (repeat ((first | (with_reducible refine mkQU ?_) | simp only [brGen]); try simp (maxSteps := 2000000) only [↓ S2, S2, vIte, ↓reduceIte, Int.reduceNe, Nat.reduceEqDiff, reduceCtorEq, Nat.reduceLeDiff, Nat.reduceAdd, Nat.reduceLT, hr, bdO_f, m1lt, m1ge, hG', decide_true, decide_false])); (try simp +contextual (disch := omega) only [Z2, hr, bdO_f, m1lt, m1ge, hG', decide_true, decide_false]); (repeat' (first | (with_reducible intro h) | (with_reducible refine And.intro (by omega) ?_) | (with_reducible refine exP (by omega) ?_) | (with_reducible apply And.intro))))
      refine callS.of hfail ?_
      rintro _ _ ⟨rfl, rfl⟩ _
      ((try with_reducible refine mkQI ?_); (repeat ((first | (with_reducible refine mkQU ?_) | simp only [brGen]); try simp (maxSteps := 2000000) only [↓ S2, S2, vIte, ↓reduceIte, Int.reduceNe, Nat.reduceEqDiff, reduceCtorEq, Nat.reduceLeDiff, Nat.reduceAdd, Nat.reduceLT, ])); (try simp +contextual (disch := omega) only [Z2, ]); (repeat' (first | (with_reducible intro h) | (with_reducible refine And.intro (by omega) ?_) | (with_reducible refine exP (by omega) ?_) | (with_reducible apply And.intro))))
      all_goals first | (exfalso; omega) | exact .inr (.inl (hbad hx))
end Go.Proofs.YtkmedfejmndmjaaGreatDoor

namespace Go.Proofs.YtkmedfejmndmjaaGreatDoor
open Go.Gh
set_option maxRecDepth 20000
set_option linter.unusedSimpArgs false
set_option linter.unusedVariables false
open Go.Lib
theorem Tryz.aggSl (s : Nat) (l : List GV) : Go.Gh.isAgg (GV.sl s l) = false := rfl
theorem Tryz.opB_S (ts : List Go.Gh.Tok) (b : Bool) (i lv : Nat) : opB ts b i lv = (if lv = 1 then (if (!b && sees ts i ⟨#[60]⟩) = true then 9 else if (!b && sees ts i ⟨#[61, 61]⟩) = true then 10 else 0) else
  if lv = 2 then (if (!b && sees ts i ⟨#[43]⟩) = true then 1 else if (!b && sees ts i ⟨#[45]⟩) = true then 2 else if (!b && sees ts i ⟨#[124]⟩) = true then 6 else if (!b && sees ts i ⟨#[92]⟩) = true then 8 else 0) else
  if lv = 3 then (if (!b && sees ts i ⟨#[42]⟩) = true then 3 else if (!b && sees ts i ⟨#[38]⟩) = true then 7 else 0) else 0) := by
  cases b with
  | true => simp [opB]
  | false => simp only [opB, opAt, Bool.not_false, Bool.true_and, Bool.false_eq_true, if_false]
set_option maxHeartbeats 4000000 in
theorem Tryz.sop1 {ts : List Go.Gh.Tok} {nE : Int} (hK : OkR ts nE) (i : Nat) (hi : i ≤ ts.length) (b : Bool) (rp : Nat) (H : GH) (hr : hget H rp = some (4, [SpG ts nE i b])) :
    GCalls Tryz.prog 107 [.ptr rp 4 0 0, I 1] H (fun g H' => g = I (opB ts b i 1) ∧ H' = H) := by
  have hs : ∀ w, GCalls Tryz.prog 73 [.ptr rp 4 0 0, T w] H (fun g H' => g = B (!b && sees ts i w) ∧ H' = H) := fun w => w73 hK i hi b w rp H hr
  rw [Tryz.opB_S]
  refine gstart mxd i107 rfl (by simp) ?_; simp (maxSteps := 2000000) only [↓ S2, S2, vIte, ↓reduceIte, Int.reduceNe, Nat.reduceEqDiff, reduceCtorEq, Nat.reduceLeDiff, Nat.reduceAdd, Nat.reduceLT]
  ((try with_reducible refine mkQI ?_); (repeat ((first | (with_reducible refine mkQU ?_) | simp only [brGen]); try simp (maxSteps := 4000000) +contextual only [↓ S2, S2, vIte, ↓reduceIte, Int.reduceNe, Nat.reduceEqDiff, reduceCtorEq, Nat.reduceLeDiff, Nat.reduceAdd, Nat.reduceLT, hget_c, hset_c, hdel_c, neN, neA_cons, neA_nil, Int.reduceSub, Int.reduceToNat, List.getElem_cons_zero, List.getElem_cons_succ, Tryz.aggSl])); (try simp +contextual (disch := omega) only [Z2, Int.reduceSub, Int.reduceToNat, List.getElem_cons_zero, List.getElem_cons_succ, Tryz.aggSl]); (repeat' (first | (with_reducible intro h) | (with_reducible refine And.intro (by omega) ?_) | (with_reducible refine exP (by omega) ?_) | (with_reducible apply And.intro))))
  ((try with_reducible refine mkQI ?_); (repeat ((first | (with_reducible refine mkQU ?_) | simp only [brGen]); try simp (maxSteps := 4000000) +contextual only [↓ S2, S2, vIte, ↓reduceIte, Int.reduceNe, Nat.reduceEqDiff, reduceCtorEq, Nat.reduceLeDiff, Nat.reduceAdd, Nat.reduceLT, hget_c, hset_c, hdel_c, neN, neA_cons, neA_nil, Int.reduceSub, Int.reduceToNat, List.getElem_cons_zero, List.getElem_cons_succ, Tryz.aggSl])); (try simp +contextual (disch := omega) only [Z2, Int.reduceSub, Int.reduceToNat, List.getElem_cons_zero, List.getElem_cons_succ, Tryz.aggSl]); (repeat' (first | (with_reducible intro h) | (with_reducible refine And.intro (by omega) ?_) | (with_reducible refine exP (by omega) ?_) | (with_reducible apply And.intro))))
  ((try with_reducible refine mkQI ?_); (repeat ((first | (with_reducible refine mkQU ?_) | simp only [brGen]); try simp (maxSteps := 4000000) +contextual only [↓ S2, S2, vIte, ↓reduceIte, Int.reduceNe, Nat.reduceEqDiff, reduceCtorEq, Nat.reduceLeDiff, Nat.reduceAdd, Nat.reduceLT, hget_c, hset_c, hdel_c, neN, neA_cons, neA_nil, Int.reduceSub, Int.reduceToNat, List.getElem_cons_zero, List.getElem_cons_succ, Tryz.aggSl])); (try simp +contextual (disch := omega) only [Z2, Int.reduceSub, Int.reduceToNat, List.getElem_cons_zero, List.getElem_cons_succ, Tryz.aggSl]); (repeat' (first | (with_reducible intro h) | (with_reducible refine And.intro (by omega) ?_) | (with_reducible refine exP (by omega) ?_) | (with_reducible apply And.intro))))
  refine wloop mxd (ι := { k : Int // k = 0 ∨ (k = 1 ∧ (!b && sees ts i ⟨#[60]⟩) = false) ∨ (k = 2 ∧ (!b && sees ts i ⟨#[60]⟩) = false ∧ (!b && sees ts i ⟨#[61, 61]⟩) = false) }) (fun k => [(0, .ptr rp 4 0 0), (4, I 0), (5, .sl 1 [T ⟨#[60]⟩, T ⟨#[61, 61]⟩]), (6, .sl 1 [I 9, I 10]), (7, I k.1)]) (fun _ => H) (fun k => (2 - k.1).toNat) ⟨0, .inl rfl⟩ (by simp [E2]) rfl ?_
  rintro ⟨k, rfl | ⟨rfl, q0⟩ | ⟨rfl, q0, q1⟩⟩
  · ((try with_reducible refine mkQI ?_); (repeat ((first | (with_reducible refine mkQU ?_) | simp only [brGen]); try simp (maxSteps := 4000000) +contextual only [↓ S2, S2, vIte, ↓reduceIte, Int.reduceNe, Nat.reduceEqDiff, reduceCtorEq, Nat.reduceLeDiff, Nat.reduceAdd, Nat.reduceLT, hget_c, hset_c, hdel_c, neN, neA_cons, neA_nil, Int.reduceSub, Int.reduceToNat, List.getElem_cons_zero, List.getElem_cons_succ, Tryz.aggSl])); (try simp +contextual (disch := omega) only [Z2, Int.reduceSub, Int.reduceToNat, List.getElem_cons_zero, List.getElem_cons_succ, Tryz.aggSl]); (repeat' (first | (with_reducible intro h) | (with_reducible refine And.intro (by omega) ?_) | (with_reducible refine exP (by omega) ?_) | (with_reducible apply And.intro))))
    ((try with_reducible refine mkQI ?_); (repeat ((first | (with_reducible refine mkQU ?_) | simp only [brGen]); try simp (maxSteps := 4000000) +contextual only [↓ S2, S2, vIte, ↓reduceIte, Int.reduceNe, Nat.reduceEqDiff, reduceCtorEq, Nat.reduceLeDiff, Nat.reduceAdd, Nat.reduceLT, hget_c, hset_c, hdel_c, neN, neA_cons, neA_nil, Int.reduceSub, Int.reduceToNat, List.getElem_cons_zero, List.getElem_cons_succ, Tryz.aggSl])); (try simp +contextual (disch := omega) only [Z2, Int.reduceSub, Int.reduceToNat, List.getElem_cons_zero, List.getElem_cons_succ, Tryz.aggSl]); (repeat' (first | (with_reducible intro h) | (with_reducible refine And.intro (by omega) ?_) | (with_reducible refine exP (by omega) ?_) | (with_reducible apply And.intro))))
    all_goals try (exfalso; omega)
    refine callS.of (hs ⟨#[60]⟩) ?_
    rintro _ _ ⟨rfl, rfl⟩ _
    cases hq : (!b && sees ts i ⟨#[60]⟩) with
    | true =>
      ((try with_reducible refine mkQI ?_); (repeat ((first | (with_reducible refine mkQU ?_) | simp only [brGen]); try simp (maxSteps := 4000000) +contextual only [↓ S2, S2, vIte, ↓reduceIte, Int.reduceNe, Nat.reduceEqDiff, reduceCtorEq, Nat.reduceLeDiff, Nat.reduceAdd, Nat.reduceLT, hget_c, hset_c, hdel_c, neN, neA_cons, neA_nil, Int.reduceSub, Int.reduceToNat, List.getElem_cons_zero, List.getElem_cons_succ, Tryz.aggSl])); (try simp +contextual (disch := omega) only [Z2, Int.reduceSub, Int.reduceToNat, List.getElem_cons_zero, List.getElem_cons_succ, Tryz.aggSl]); (repeat' (first | (with_reducible intro h) | (with_reducible refine And.intro (by omega) ?_) | (with_reducible refine exP (by omega) ?_) | (with_reducible apply And.intro))))
      ((try with_reducible refine mkQI ?_); (repeat ((first | (with_reducible refine mkQU ?_) | simp only [brGen]); try simp (maxSteps := 4000000) +contextual only [↓ S2, S2, vIte, ↓reduceIte, Int.reduceNe, Nat.reduceEqDiff, reduceCtorEq, Nat.reduceLeDiff, Nat.reduceAdd, Nat.reduceLT, hget_c, hset_c, hdel_c, neN, neA_cons, neA_nil, Int.reduceSub, Int.reduceToNat, List.getElem_cons_zero, List.getElem_cons_succ, Tryz.aggSl])); (try simp +contextual (disch := omega) only [Z2, Int.reduceSub, Int.reduceToNat, List.getElem_cons_zero, List.getElem_cons_succ, Tryz.aggSl]); (repeat' (first | (with_reducible intro h) | (with_reducible refine And.intro (by omega) ?_) | (with_reducible refine exP (by omega) ?_) | (with_reducible apply And.intro))))
      all_goals first | (simp [hq]; done) | trace_state
    | false =>
      ((try with_reducible refine mkQI ?_); (repeat ((first | (with_reducible refine mkQU ?_) | simp only [brGen]); try simp (maxSteps := 4000000) +contextual only [↓ S2, S2, vIte, ↓reduceIte, Int.reduceNe, Nat.reduceEqDiff, reduceCtorEq, Nat.reduceLeDiff, Nat.reduceAdd, Nat.reduceLT, hget_c, hset_c, hdel_c, neN, neA_cons, neA_nil, ])); (try simp +contextual (disch := omega) only [Z2, ]); (repeat' (first | (with_reducible intro h) | (with_reducible refine And.intro (by omega) ?_) | (with_reducible refine exP (by omega) ?_) | (with_reducible apply And.intro))))
      all_goals exact nx ⟨1, .inr (.inl ⟨rfl, (by first | exact hq | rfl)⟩)⟩ (by dsimp only; decide) (by simp [E2]) rfl
  · ((try with_reducible refine mkQI ?_); (repeat ((first | (with_reducible refine mkQU ?_) | simp only [brGen]); try simp (maxSteps := 4000000) +contextual only [↓ S2, S2, vIte, ↓reduceIte, Int.reduceNe, Nat.reduceEqDiff, reduceCtorEq, Nat.reduceLeDiff, Nat.reduceAdd, Nat.reduceLT, hget_c, hset_c, hdel_c, neN, neA_cons, neA_nil, Int.reduceSub, Int.reduceToNat, List.getElem_cons_zero, List.getElem_cons_succ, Tryz.aggSl])); (try simp +contextual (disch := omega) only [Z2, Int.reduceSub, Int.reduceToNat, List.getElem_cons_zero, List.getElem_cons_succ, Tryz.aggSl]); (repeat' (first | (with_reducible intro h) | (with_reducible refine And.intro (by omega) ?_) | (with_reducible refine exP (by omega) ?_) | (with_reducible apply And.intro))))
    ((try with_reducible refine mkQI ?_); (repeat ((first | (with_reducible refine mkQU ?_) | simp only [brGen]); try simp (maxSteps := 4000000) +contextual only [↓ S2, S2, vIte, ↓reduceIte, Int.reduceNe, Nat.reduceEqDiff, reduceCtorEq, Nat.reduceLeDiff, Nat.reduceAdd, Nat.reduceLT, hget_c, hset_c, hdel_c, neN, neA_cons, neA_nil, Int.reduceSub, Int.reduceToNat, List.getElem_cons_zero, List.getElem_cons_succ, Tryz.aggSl])); (try simp +contextual (disch := omega) only [Z2, Int.reduceSub, Int.reduceToNat, List.getElem_cons_zero, List.getElem_cons_succ, Tryz.aggSl]); (repeat' (first | (with_reducible intro h) | (with_reducible refine And.intro (by omega) ?_) | (with_reducible refine exP (by omega) ?_) | (with_reducible apply And.intro))))
    all_goals try (exfalso; omega)
    refine callS.of (hs ⟨#[61, 61]⟩) ?_
    rintro _ _ ⟨rfl, rfl⟩ _
    cases hq : (!b && sees ts i ⟨#[61, 61]⟩) with
    | true =>
      ((try with_reducible refine mkQI ?_); (repeat ((first | (with_reducible refine mkQU ?_) | simp only [brGen]); try simp (maxSteps := 4000000) +contextual only [↓ S2, S2, vIte, ↓reduceIte, Int.reduceNe, Nat.reduceEqDiff, reduceCtorEq, Nat.reduceLeDiff, Nat.reduceAdd, Nat.reduceLT, hget_c, hset_c, hdel_c, neN, neA_cons, neA_nil, Int.reduceSub, Int.reduceToNat, List.getElem_cons_zero, List.getElem_cons_succ, Tryz.aggSl])); (try simp +contextual (disch := omega) only [Z2, Int.reduceSub, Int.reduceToNat, List.getElem_cons_zero, List.getElem_cons_succ, Tryz.aggSl]); (repeat' (first | (with_reducible intro h) | (with_reducible refine And.intro (by omega) ?_) | (with_reducible refine exP (by omega) ?_) | (with_reducible apply And.intro))))
      ((try with_reducible refine mkQI ?_); (repeat ((first | (with_reducible refine mkQU ?_) | simp only [brGen]); try simp (maxSteps := 4000000) +contextual only [↓ S2, S2, vIte, ↓reduceIte, Int.reduceNe, Nat.reduceEqDiff, reduceCtorEq, Nat.reduceLeDiff, Nat.reduceAdd, Nat.reduceLT, hget_c, hset_c, hdel_c, neN, neA_cons, neA_nil, Int.reduceSub, Int.reduceToNat, List.getElem_cons_zero, List.getElem_cons_succ, Tryz.aggSl])); (try simp +contextual (disch := omega) only [Z2, Int.reduceSub, Int.reduceToNat, List.getElem_cons_zero, List.getElem_cons_succ, Tryz.aggSl]); (repeat' (first | (with_reducible intro h) | (with_reducible refine And.intro (by omega) ?_) | (with_reducible refine exP (by omega) ?_) | (with_reducible apply And.intro))))
      all_goals first | (simp [hq, q0]; done) | trace_state
    | false =>
      ((try with_reducible refine mkQI ?_); (repeat ((first | (with_reducible refine mkQU ?_) | simp only [brGen]); try simp (maxSteps := 4000000) +contextual only [↓ S2, S2, vIte, ↓reduceIte, Int.reduceNe, Nat.reduceEqDiff, reduceCtorEq, Nat.reduceLeDiff, Nat.reduceAdd, Nat.reduceLT, hget_c, hset_c, hdel_c, neN, neA_cons, neA_nil, ])); (try simp +contextual (disch := omega) only [Z2, ]); (repeat' (first | (with_reducible intro h) | (with_reducible refine And.intro (by omega) ?_) | (with_reducible refine exP (by omega) ?_) | (with_reducible apply And.intro))))
      all_goals exact nx ⟨2, .inr (.inr (⟨rfl, q0, (by first | exact hq | rfl)⟩))⟩ (by dsimp only; decide) (by simp [E2]) rfl
  · ((try with_reducible refine mkQI ?_); (repeat ((first | (with_reducible refine mkQU ?_) | simp only [brGen]); try simp (maxSteps := 4000000) +contextual only [↓ S2, S2, vIte, ↓reduceIte, Int.reduceNe, Nat.reduceEqDiff, reduceCtorEq, Nat.reduceLeDiff, Nat.reduceAdd, Nat.reduceLT, hget_c, hset_c, hdel_c, neN, neA_cons, neA_nil, ])); (try simp +contextual (disch := omega) only [Z2, ]); (repeat' (first | (with_reducible intro h) | (with_reducible refine And.intro (by omega) ?_) | (with_reducible refine exP (by omega) ?_) | (with_reducible apply And.intro))))
    all_goals first | (simp [q0, q1]; done) | trace_state
set_option maxHeartbeats 4000000 in
theorem Tryz.sop2 {ts : List Go.Gh.Tok} {nE : Int} (hK : OkR ts nE) (i : Nat) (hi : i ≤ ts.length) (b : Bool) (rp : Nat) (H : GH) (hr : hget H rp = some (4, [SpG ts nE i b])) :
    GCalls Tryz.prog 107 [.ptr rp 4 0 0, I 2] H (fun g H' => g = I (opB ts b i 2) ∧ H' = H) := by
  have hs : ∀ w, GCalls Tryz.prog 73 [.ptr rp 4 0 0, T w] H (fun g H' => g = B (!b && sees ts i w) ∧ H' = H) := fun w => w73 hK i hi b w rp H hr
  rw [Tryz.opB_S]
  refine gstart mxd i107 rfl (by simp) ?_; simp (maxSteps := 2000000) only [↓ S2, S2, vIte, ↓reduceIte, Int.reduceNe, Nat.reduceEqDiff, reduceCtorEq, Nat.reduceLeDiff, Nat.reduceAdd, Nat.reduceLT]
  ((try with_reducible refine mkQI ?_); (repeat ((first | (with_reducible refine mkQU ?_) | simp only [brGen]); try simp (maxSteps := 4000000) +contextual only [↓ S2, S2, vIte, ↓reduceIte, Int.reduceNe, Nat.reduceEqDiff, reduceCtorEq, Nat.reduceLeDiff, Nat.reduceAdd, Nat.reduceLT, hget_c, hset_c, hdel_c, neN, neA_cons, neA_nil, Int.reduceSub, Int.reduceToNat, List.getElem_cons_zero, List.getElem_cons_succ, Tryz.aggSl])); (try simp +contextual (disch := omega) only [Z2, Int.reduceSub, Int.reduceToNat, List.getElem_cons_zero, List.getElem_cons_succ, Tryz.aggSl]); (repeat' (first | (with_reducible intro h) | (with_reducible refine And.intro (by omega) ?_) | (with_reducible refine exP (by omega) ?_) | (with_reducible apply And.intro))))
  ((try with_reducible refine mkQI ?_); (repeat ((first | (with_reducible refine mkQU ?_) | simp only [brGen]); try simp (maxSteps := 4000000) +contextual only [↓ S2, S2, vIte, ↓reduceIte, Int.reduceNe, Nat.reduceEqDiff, reduceCtorEq, Nat.reduceLeDiff, Nat.reduceAdd, Nat.reduceLT, hget_c, hset_c, hdel_c, neN, neA_cons, neA_nil, Int.reduceSub, Int.reduceToNat, List.getElem_cons_zero, List.getElem_cons_succ, Tryz.aggSl])); (try simp +contextual (disch := omega) only [Z2, Int.reduceSub, Int.reduceToNat, List.getElem_cons_zero, List.getElem_cons_succ, Tryz.aggSl]); (repeat' (first | (with_reducible intro h) | (with_reducible refine And.intro (by omega) ?_) | (with_reducible refine exP (by omega) ?_) | (with_reducible apply And.intro))))
  ((try with_reducible refine mkQI ?_); (repeat ((first | (with_reducible refine mkQU ?_) | simp only [brGen]); try simp (maxSteps := 4000000) +contextual only [↓ S2, S2, vIte, ↓reduceIte, Int.reduceNe, Nat.reduceEqDiff, reduceCtorEq, Nat.reduceLeDiff, Nat.reduceAdd, Nat.reduceLT, hget_c, hset_c, hdel_c, neN, neA_cons, neA_nil, Int.reduceSub, Int.reduceToNat, List.getElem_cons_zero, List.getElem_cons_succ, Tryz.aggSl])); (try simp +contextual (disch := omega) only [Z2, Int.reduceSub, Int.reduceToNat, List.getElem_cons_zero, List.getElem_cons_succ, Tryz.aggSl]); (repeat' (first | (with_reducible intro h) | (with_reducible refine And.intro (by omega) ?_) | (with_reducible refine exP (by omega) ?_) | (with_reducible apply And.intro))))
  refine wloop mxd (ι := { k : Int // k = 0 ∨ (k = 1 ∧ (!b && sees ts i ⟨#[43]⟩) = false) ∨ (k = 2 ∧ (!b && sees ts i ⟨#[43]⟩) = false ∧ (!b && sees ts i ⟨#[45]⟩) = false) ∨ (k = 3 ∧ (!b && sees ts i ⟨#[43]⟩) = false ∧ (!b && sees ts i ⟨#[45]⟩) = false ∧ (!b && sees ts i ⟨#[124]⟩) = false) ∨ (k = 4 ∧ (!b && sees ts i ⟨#[43]⟩) = false ∧ (!b && sees ts i ⟨#[45]⟩) = false ∧ (!b && sees ts i ⟨#[124]⟩) = false ∧ (!b && sees ts i ⟨#[92]⟩) = false) }) (fun k => [(0, .ptr rp 4 0 0), (4, I 0), (5, .sl 1 [T ⟨#[43]⟩, T ⟨#[45]⟩, T ⟨#[124]⟩, T ⟨#[92]⟩]), (6, .sl 1 [I 1, I 2, I 6, I 8]), (7, I k.1)]) (fun _ => H) (fun k => (4 - k.1).toNat) ⟨0, .inl rfl⟩ (by simp [E2]) rfl ?_
  rintro ⟨k, rfl | ⟨rfl, q0⟩ | ⟨rfl, q0, q1⟩ | ⟨rfl, q0, q1, q2⟩ | ⟨rfl, q0, q1, q2, q3⟩⟩
  · ((try with_reducible refine mkQI ?_); (repeat ((first | (with_reducible refine mkQU ?_) | simp only [brGen]); try simp (maxSteps := 4000000) +contextual only [↓ S2, S2, vIte, ↓reduceIte, Int.reduceNe, Nat.reduceEqDiff, reduceCtorEq, Nat.reduceLeDiff, Nat.reduceAdd, Nat.reduceLT, hget_c, hset_c, hdel_c, neN, neA_cons, neA_nil, Int.reduceSub, Int.reduceToNat, List.getElem_cons_zero, List.getElem_cons_succ, Tryz.aggSl])); (try simp +contextual (disch := omega) only [Z2, Int.reduceSub, Int.reduceToNat, List.getElem_cons_zero, List.getElem_cons_succ, Tryz.aggSl]); (repeat' (first | (with_reducible intro h) | (with_reducible refine And.intro (by omega) ?_) | (with_reducible refine exP (by omega) ?_) | (with_reducible apply And.intro))))
    ((try with_reducible refine mkQI ?_); (repeat ((first | (with_reducible refine mkQU ?_) | simp only [brGen]); try simp (maxSteps := 4000000) +contextual only [↓ S2, S2, vIte, ↓reduceIte, Int.reduceNe, Nat.reduceEqDiff, reduceCtorEq, Nat.reduceLeDiff, Nat.reduceAdd, Nat.reduceLT, hget_c, hset_c, hdel_c, neN, neA_cons, neA_nil, Int.reduceSub, Int.reduceToNat, List.getElem_cons_zero, List.getElem_cons_succ, Tryz.aggSl])); (try simp +contextual (disch := omega) only [Z2, Int.reduceSub, Int.reduceToNat, List.getElem_cons_zero, List.getElem_cons_succ, Tryz.aggSl]); (repeat' (first | (with_reducible intro h) | (with_reducible refine And.intro (by omega) ?_) | (with_reducible refine exP (by omega) ?_) | (with_reducible apply And.intro))))
    all_goals try (exfalso; omega)
    refine callS.of (hs ⟨#[43]⟩) ?_
    rintro _ _ ⟨rfl, rfl⟩ _
    cases hq : (!b && sees ts i ⟨#[43]⟩) with
    | true =>
      ((try with_reducible refine mkQI ?_); (repeat ((first | (with_reducible refine mkQU ?_) | simp only [brGen]); try simp (maxSteps := 4000000) +contextual only [↓ S2, S2, vIte, ↓reduceIte, Int.reduceNe, Nat.reduceEqDiff, reduceCtorEq, Nat.reduceLeDiff, Nat.reduceAdd, Nat.reduceLT, hget_c, hset_c, hdel_c, neN, neA_cons, neA_nil, Int.reduceSub, Int.reduceToNat, List.getElem_cons_zero, List.getElem_cons_succ, Tryz.aggSl])); (try simp +contextual (disch := omega) only [Z2, Int.reduceSub, Int.reduceToNat, List.getElem_cons_zero, List.getElem_cons_succ, Tryz.aggSl]); (repeat' (first | (with_reducible intro h) | (with_reducible refine And.intro (by omega) ?_) | (with_reducible refine exP (by omega) ?_) | (with_reducible apply And.intro))))
      ((try with_reducible refine mkQI ?_); (repeat ((first | (with_reducible refine mkQU ?_) | simp only [brGen]); try simp (maxSteps := 4000000) +contextual only [↓ S2, S2, vIte, ↓reduceIte, Int.reduceNe, Nat.reduceEqDiff, reduceCtorEq, Nat.reduceLeDiff, Nat.reduceAdd, Nat.reduceLT, hget_c, hset_c, hdel_c, neN, neA_cons, neA_nil, Int.reduceSub, Int.reduceToNat, List.getElem_cons_zero, List.getElem_cons_succ, Tryz.aggSl])); (try simp +contextual (disch := omega) only [Z2, Int.reduceSub, Int.reduceToNat, List.getElem_cons_zero, List.getElem_cons_succ, Tryz.aggSl]); (repeat' (first | (with_reducible intro h) | (with_reducible refine And.intro (by omega) ?_) | (with_reducible refine exP (by omega) ?_) | (with_reducible apply And.intro))))
      all_goals first | (simp [hq]; done) | trace_state
    | false =>
      ((try with_reducible refine mkQI ?_); (repeat ((first | (with_reducible refine mkQU ?_) | simp only [brGen]); try simp (maxSteps := 4000000) +contextual only [↓ S2, S2, vIte, ↓reduceIte, Int.reduceNe, Nat.reduceEqDiff, reduceCtorEq, Nat.reduceLeDiff, Nat.reduceAdd, Nat.reduceLT, hget_c, hset_c, hdel_c, neN, neA_cons, neA_nil, ])); (try simp +contextual (disch := omega) only [Z2, ]); (repeat' (first | (with_reducible intro h) | (with_reducible refine And.intro (by omega) ?_) | (with_reducible refine exP (by omega) ?_) | (with_reducible apply And.intro))))
      all_goals exact nx ⟨1, .inr (.inl ⟨rfl, (by first | exact hq | rfl)⟩)⟩ (by dsimp only; decide) (by simp [E2]) rfl
  · ((try with_reducible refine mkQI ?_); (repeat ((first | (with_reducible refine mkQU ?_) | simp only [brGen]); try simp (maxSteps := 4000000) +contextual only [↓ S2, S2, vIte, ↓reduceIte, Int.reduceNe, Nat.reduceEqDiff, reduceCtorEq, Nat.reduceLeDiff, Nat.reduceAdd, Nat.reduceLT, hget_c, hset_c, hdel_c, neN, neA_cons, neA_nil, Int.reduceSub, Int.reduceToNat, List.getElem_cons_zero, List.getElem_cons_succ, Tryz.aggSl])); (try simp +contextual (disch := omega) only [Z2, Int.reduceSub, Int.reduceToNat, List.getElem_cons_zero, List.getElem_cons_succ, Tryz.aggSl]); (repeat' (first | (with_reducible intro h) | (with_reducible refine And.intro (by omega) ?_) | (with_reducible refine exP (by omega) ?_) | (with_reducible apply And.intro))))
    ((try with_reducible refine mkQI ?_); (repeat ((first | (with_reducible refine mkQU ?_) | simp only [brGen]); try simp (maxSteps := 4000000) +contextual only [↓ S2, S2, vIte, ↓reduceIte, Int.reduceNe, Nat.reduceEqDiff, reduceCtorEq, Nat.reduceLeDiff, Nat.reduceAdd, Nat.reduceLT, hget_c, hset_c, hdel_c, neN, neA_cons, neA_nil, Int.reduceSub, Int.reduceToNat, List.getElem_cons_zero, List.getElem_cons_succ, Tryz.aggSl])); (try simp +contextual (disch := omega) only [Z2, Int.reduceSub, Int.reduceToNat, List.getElem_cons_zero, List.getElem_cons_succ, Tryz.aggSl]); (repeat' (first | (with_reducible intro h) | (with_reducible refine And.intro (by omega) ?_) | (with_reducible refine exP (by omega) ?_) | (with_reducible apply And.intro))))
    all_goals try (exfalso; omega)
    refine callS.of (hs ⟨#[45]⟩) ?_
    rintro _ _ ⟨rfl, rfl⟩ _
    cases hq : (!b && sees ts i ⟨#[45]⟩) with
    | true =>
      ((try with_reducible refine mkQI ?_); (repeat ((first | (with_reducible refine mkQU ?_) | simp only [brGen]); try simp (maxSteps := 4000000) +contextual only [↓ S2, S2, vIte, ↓reduceIte, Int.reduceNe, Nat.reduceEqDiff, reduceCtorEq, Nat.reduceLeDiff, Nat.reduceAdd, Nat.reduceLT, hget_c, hset_c, hdel_c, neN, neA_cons, neA_nil, Int.reduceSub, Int.reduceToNat, List.getElem_cons_zero, List.getElem_cons_succ, Tryz.aggSl])); (try simp +contextual (disch := omega) only [Z2, Int.reduceSub, Int.reduceToNat, List.getElem_cons_zero, List.getElem_cons_succ, Tryz.aggSl]); (repeat' (first | (with_reducible intro h) | (with_reducible refine And.intro (by omega) ?_) | (with_reducible refine exP (by omega) ?_) | (with_reducible apply And.intro))))
      ((try with_reducible refine mkQI ?_); (repeat ((first | (with_reducible refine mkQU ?_) | simp only [brGen]); try simp (maxSteps := 4000000) +contextual only [↓ S2, S2, vIte, ↓reduceIte, Int.reduceNe, Nat.reduceEqDiff, reduceCtorEq, Nat.reduceLeDiff, Nat.reduceAdd, Nat.reduceLT, hget_c, hset_c, hdel_c, neN, neA_cons, neA_nil, Int.reduceSub, Int.reduceToNat, List.getElem_cons_zero, List.getElem_cons_succ, Tryz.aggSl])); (try simp +contextual (disch := omega) only [Z2, Int.reduceSub, Int.reduceToNat, List.getElem_cons_zero, List.getElem_cons_succ, Tryz.aggSl]); (repeat' (first | (with_reducible intro h) | (with_reducible refine And.intro (by omega) ?_) | (with_reducible refine exP (by omega) ?_) | (with_reducible apply And.intro))))
      all_goals first | (simp [hq, q0]; done) | trace_state
    | false =>
      ((try with_reducible refine mkQI ?_); (repeat ((first | (with_reducible refine mkQU ?_) | simp only [brGen]); try simp (maxSteps := 4000000) +contextual only [↓ S2, S2, vIte, ↓reduceIte, Int.reduceNe, Nat.reduceEqDiff, reduceCtorEq, Nat.reduceLeDiff, Nat.reduceAdd, Nat.reduceLT, hget_c, hset_c, hdel_c, neN, neA_cons, neA_nil, ])); (try simp +contextual (disch := omega) only [Z2, ]); (repeat' (first | (with_reducible intro h) | (with_reducible refine And.intro (by omega) ?_) | (with_reducible refine exP (by omega) ?_) | (with_reducible apply And.intro))))
      all_goals exact nx ⟨2, .inr (.inr (.inl ⟨rfl, q0, (by first | exact hq | rfl)⟩))⟩ (by dsimp only; decide) (by simp [E2]) rfl
  · ((try with_reducible refine mkQI ?_); (repeat ((first | (with_reducible refine mkQU ?_) | simp only [brGen]); try simp (maxSteps := 4000000) +contextual only [↓ S2, S2, vIte, ↓reduceIte, Int.reduceNe, Nat.reduceEqDiff, reduceCtorEq, Nat.reduceLeDiff, Nat.reduceAdd, Nat.reduceLT, hget_c, hset_c, hdel_c, neN, neA_cons, neA_nil, Int.reduceSub, Int.reduceToNat, List.getElem_cons_zero, List.getElem_cons_succ, Tryz.aggSl])); (try simp +contextual (disch := omega) only [Z2, Int.reduceSub, Int.reduceToNat, List.getElem_cons_zero, List.getElem_cons_succ, Tryz.aggSl]); (repeat' (first | (with_reducible intro h) | (with_reducible refine And.intro (by omega) ?_) | (with_reducible refine exP (by omega) ?_) | (with_reducible apply And.intro))))
    ((try with_reducible refine mkQI ?_); (repeat ((first | (with_reducible refine mkQU ?_) | simp only [brGen]); try simp (maxSteps := 4000000) +contextual only [↓ S2, S2, vIte, ↓reduceIte, Int.reduceNe, Nat.reduceEqDiff, reduceCtorEq, Nat.reduceLeDiff, Nat.reduceAdd, Nat.reduceLT, hget_c, hset_c, hdel_c, neN, neA_cons, neA_nil, Int.reduceSub, Int.reduceToNat, List.getElem_cons_zero, List.getElem_cons_succ, Tryz.aggSl])); (try simp +contextual (disch := omega) only [Z2, Int.reduceSub, Int.reduceToNat, List.getElem_cons_zero, List.getElem_cons_succ, Tryz.aggSl]); (repeat' (first | (with_reducible intro h) | (with_reducible refine And.intro (by omega) ?_) | (with_reducible refine exP (by omega) ?_) | (with_reducible apply And.intro))))
    all_goals try (exfalso; omega)
    refine callS.of (hs ⟨#[124]⟩) ?_
    rintro _ _ ⟨rfl, rfl⟩ _
    cases hq : (!b && sees ts i ⟨#[124]⟩) with
    | true =>
      ((try with_reducible refine mkQI ?_); (repeat ((first | (with_reducible refine mkQU ?_) | simp only [brGen]); try simp (maxSteps := 4000000) +contextual only [↓ S2, S2, vIte, ↓reduceIte, Int.reduceNe, Nat.reduceEqDiff, reduceCtorEq, Nat.reduceLeDiff, Nat.reduceAdd, Nat.reduceLT, hget_c, hset_c, hdel_c, neN, neA_cons, neA_nil, Int.reduceSub, Int.reduceToNat, List.getElem_cons_zero, List.getElem_cons_succ, Tryz.aggSl])); (try simp +contextual (disch := omega) only [Z2, Int.reduceSub, Int.reduceToNat, List.getElem_cons_zero, List.getElem_cons_succ, Tryz.aggSl]); (repeat' (first | (with_reducible intro h) | (with_reducible refine And.intro (by omega) ?_) | (with_reducible refine exP (by omega) ?_) | (with_reducible apply And.intro))))
      ((try with_reducible refine mkQI ?_); (repeat ((first | (with_reducible refine mkQU ?_) | simp only [brGen]); try simp (maxSteps := 4000000) +contextual only [↓ S2, S2, vIte, ↓reduceIte, Int.reduceNe, Nat.reduceEqDiff, reduceCtorEq, Nat.reduceLeDiff, Nat.reduceAdd, Nat.reduceLT, hget_c, hset_c, hdel_c, neN, neA_cons, neA_nil, Int.reduceSub, Int.reduceToNat, List.getElem_cons_zero, List.getElem_cons_succ, Tryz.aggSl])); (try simp +contextual (disch := omega) only [Z2, Int.reduceSub, Int.reduceToNat, List.getElem_cons_zero, List.getElem_cons_succ, Tryz.aggSl]); (repeat' (first | (with_reducible intro h) | (with_reducible refine And.intro (by omega) ?_) | (with_reducible refine exP (by omega) ?_) | (with_reducible apply And.intro))))
      all_goals first | (simp [hq, q0, q1]; done) | trace_state
    | false =>
      ((try with_reducible refine mkQI ?_); (repeat ((first | (with_reducible refine mkQU ?_) | simp only [brGen]); try simp (maxSteps := 4000000) +contextual only [↓ S2, S2, vIte, ↓reduceIte, Int.reduceNe, Nat.reduceEqDiff, reduceCtorEq, Nat.reduceLeDiff, Nat.reduceAdd, Nat.reduceLT, hget_c, hset_c, hdel_c, neN, neA_cons, neA_nil, ])); (try simp +contextual (disch := omega) only [Z2, ]); (repeat' (first | (with_reducible intro h) | (with_reducible refine And.intro (by omega) ?_) | (with_reducible refine exP (by omega) ?_) | (with_reducible apply And.intro))))
      all_goals exact nx ⟨3, .inr (.inr (.inr (.inl ⟨rfl, q0, q1, (by first | exact hq | rfl)⟩)))⟩ (by dsimp only; decide) (by simp [E2]) rfl
  · ((try with_reducible refine mkQI ?_); (repeat ((first | (with_reducible refine mkQU ?_) | simp only [brGen]); try simp (maxSteps := 4000000) +contextual only [↓ S2, S2, vIte, ↓reduceIte, Int.reduceNe, Nat.reduceEqDiff, reduceCtorEq, Nat.reduceLeDiff, Nat.reduceAdd, Nat.reduceLT, hget_c, hset_c, hdel_c, neN, neA_cons, neA_nil, Int.reduceSub, Int.reduceToNat, List.getElem_cons_zero, List.getElem_cons_succ, Tryz.aggSl])); (try simp +contextual (disch := omega) only [Z2, Int.reduceSub, Int.reduceToNat, List.getElem_cons_zero, List.getElem_cons_succ, Tryz.aggSl]); (repeat' (first | (with_reducible intro h) | (with_reducible refine And.intro (by omega) ?_) | (with_reducible refine exP (by omega) ?_) | (with_reducible apply And.intro))))
    ((try with_reducible refine mkQI ?_); (repeat ((first | (with_reducible refine mkQU ?_) | simp only [brGen]); try simp (maxSteps := 4000000) +contextual only [↓ S2, S2, vIte, ↓reduceIte, Int.reduceNe, Nat.reduceEqDiff, reduceCtorEq, Nat.reduceLeDiff, Nat.reduceAdd, Nat.reduceLT, hget_c, hset_c, hdel_c, neN, neA_cons, neA_nil, Int.reduceSub, Int.reduceToNat, List.getElem_cons_zero, List.getElem_cons_succ, Tryz.aggSl])); (try simp +contextual (disch := omega) only [Z2, Int.reduceSub, Int.reduceToNat, List.getElem_cons_zero, List.getElem_cons_succ, Tryz.aggSl]); (repeat' (first | (with_reducible intro h) | (with_reducible refine And.intro (by omega) ?_) | (with_reducible refine exP (by omega) ?_) | (with_reducible apply And.intro))))
    all_goals try (exfalso; omega)
    refine callS.of (hs ⟨#[92]⟩) ?_
    rintro _ _ ⟨rfl, rfl⟩ _
    cases hq : (!b && sees ts i ⟨#[92]⟩) with
    | true =>
      ((try with_reducible refine mkQI ?_); (repeat ((first | (with_reducible refine mkQU ?_) | simp only [brGen]); try simp (maxSteps := 4000000) +contextual only [↓ S2, S2, vIte, ↓reduceIte, Int.reduceNe, Nat.reduceEqDiff, reduceCtorEq, Nat.reduceLeDiff, Nat.reduceAdd, Nat.reduceLT, hget_c, hset_c, hdel_c, neN, neA_cons, neA_nil, Int.reduceSub, Int.reduceToNat, List.getElem_cons_zero, List.getElem_cons_succ, Tryz.aggSl])); (try simp +contextual (disch := omega) only [Z2, Int.reduceSub, Int.reduceToNat, List.getElem_cons_zero, List.getElem_cons_succ, Tryz.aggSl]); (repeat' (first | (with_reducible intro h) | (with_reducible refine And.intro (by omega) ?_) | (with_reducible refine exP (by omega) ?_) | (with_reducible apply And.intro))))
      ((try with_reducible refine mkQI ?_); (repeat ((first | (with_reducible refine mkQU ?_) | simp only [brGen]); try simp (maxSteps := 4000000) +contextual only [↓ S2, S2, vIte, ↓reduceIte, Int.reduceNe, Nat.reduceEqDiff, reduceCtorEq, Nat.reduceLeDiff, Nat.reduceAdd, Nat.reduceLT, hget_c, hset_c, hdel_c, neN, neA_cons, neA_nil, Int.reduceSub, Int.reduceToNat, List.getElem_cons_zero, List.getElem_cons_succ, Tryz.aggSl])); (try simp +contextual (disch := omega) only [Z2, Int.reduceSub, Int.reduceToNat, List.getElem_cons_zero, List.getElem_cons_succ, Tryz.aggSl]); (repeat' (first | (with_reducible intro h) | (with_reducible refine And.intro (by omega) ?_) | (with_reducible refine exP (by omega) ?_) | (with_reducible apply And.intro))))
      all_goals first | (simp [hq, q0, q1, q2]; done) | trace_state
    | false =>
      ((try with_reducible refine mkQI ?_); (repeat ((first | (with_reducible refine mkQU ?_) | simp only [brGen]); try simp (maxSteps := 4000000) +contextual only [↓ S2, S2, vIte, ↓reduceIte, Int.reduceNe, Nat.reduceEqDiff, reduceCtorEq, Nat.reduceLeDiff, Nat.reduceAdd, Nat.reduceLT, hget_c, hset_c, hdel_c, neN, neA_cons, neA_nil, ])); (try simp +contextual (disch := omega) only [Z2, ]); (repeat' (first | (with_reducible intro h) | (with_reducible refine And.intro (by omega) ?_) | (with_reducible refine exP (by omega) ?_) | (with_reducible apply And.intro))))
      all_goals exact nx ⟨4, .inr (.inr (.inr (.inr (⟨rfl, q0, q1, q2, (by first | exact hq | rfl)⟩))))⟩ (by dsimp only; decide) (by simp [E2]) rfl
  · ((try with_reducible refine mkQI ?_); (repeat ((first | (with_reducible refine mkQU ?_) | simp only [brGen]); try simp (maxSteps := 4000000) +contextual only [↓ S2, S2, vIte, ↓reduceIte, Int.reduceNe, Nat.reduceEqDiff, reduceCtorEq, Nat.reduceLeDiff, Nat.reduceAdd, Nat.reduceLT, hget_c, hset_c, hdel_c, neN, neA_cons, neA_nil, ])); (try simp +contextual (disch := omega) only [Z2, ]); (repeat' (first | (with_reducible intro h) | (with_reducible refine And.intro (by omega) ?_) | (with_reducible refine exP (by omega) ?_) | (with_reducible apply And.intro))))
    all_goals first | (simp [q0, q1, q2, q3]; done) | trace_state
set_option maxHeartbeats 4000000 in
theorem Tryz.sop3 {ts : List Go.Gh.Tok} {nE : Int} (hK : OkR ts nE) (i : Nat) (hi : i ≤ ts.length) (b : Bool) (rp : Nat) (H : GH) (hr : hget H rp = some (4, [SpG ts nE i b])) :
    GCalls Tryz.prog 107 [.ptr rp 4 0 0, I 3] H (fun g H' => g = I (opB ts b i 3) ∧ H' = H) := by
  have hs : ∀ w, GCalls Tryz.prog 73 [.ptr rp 4 0 0, T w] H (fun g H' => g = B (!b && sees ts i w) ∧ H' = H) := fun w => w73 hK i hi b w rp H hr
  rw [Tryz.opB_S]
  refine gstart mxd i107 rfl (by simp) ?_; simp (maxSteps := 2000000) only [↓ S2, S2, vIte, ↓reduceIte, Int.reduceNe, Nat.reduceEqDiff, reduceCtorEq, Nat.reduceLeDiff, Nat.reduceAdd, Nat.reduceLT]
  ((try with_reducible refine mkQI ?_); (repeat ((first | (with_reducible refine mkQU ?_) | simp only [brGen]); try simp (maxSteps := 4000000) +contextual only [↓ S2, S2, vIte, ↓reduceIte, Int.reduceNe, Nat.reduceEqDiff, reduceCtorEq, Nat.reduceLeDiff, Nat.reduceAdd, Nat.reduceLT, hget_c, hset_c, hdel_c, neN, neA_cons, neA_nil, Int.reduceSub, Int.reduceToNat, List.getElem_cons_zero, List.getElem_cons_succ, Tryz.aggSl])); (try simp +contextual (disch := omega) only [Z2, Int.reduceSub, Int.reduceToNat, List.getElem_cons_zero, List.getElem_cons_succ, Tryz.aggSl]); (repeat' (first | (with_reducible intro h) | (with_reducible refine And.intro (by omega) ?_) | (with_reducible refine exP (by omega) ?_) | (with_reducible apply And.intro))))
  ((try with_reducible refine mkQI ?_); (repeat ((first | (with_reducible refine mkQU ?_) | simp only [brGen]); try simp (maxSteps := 4000000) +contextual only [↓ S2, S2, vIte, ↓reduceIte, Int.reduceNe, Nat.reduceEqDiff, reduceCtorEq, Nat.reduceLeDiff, Nat.reduceAdd, Nat.reduceLT, hget_c, hset_c, hdel_c, neN, neA_cons, neA_nil, Int.reduceSub, Int.reduceToNat, List.getElem_cons_zero, List.getElem_cons_succ, Tryz.aggSl])); (try simp +contextual (disch := omega) only [Z2, Int.reduceSub, Int.reduceToNat, List.getElem_cons_zero, List.getElem_cons_succ, Tryz.aggSl]); (repeat' (first | (with_reducible intro h) | (with_reducible refine And.intro (by omega) ?_) | (with_reducible refine exP (by omega) ?_) | (with_reducible apply And.intro))))
  ((try with_reducible refine mkQI ?_); (repeat ((first | (with_reducible refine mkQU ?_) | simp only [brGen]); try simp (maxSteps := 4000000) +contextual only [↓ S2, S2, vIte, ↓reduceIte, Int.reduceNe, Nat.reduceEqDiff, reduceCtorEq, Nat.reduceLeDiff, Nat.reduceAdd, Nat.reduceLT, hget_c, hset_c, hdel_c, neN, neA_cons, neA_nil, Int.reduceSub, Int.reduceToNat, List.getElem_cons_zero, List.getElem_cons_succ, Tryz.aggSl])); (try simp +contextual (disch := omega) only [Z2, Int.reduceSub, Int.reduceToNat, List.getElem_cons_zero, List.getElem_cons_succ, Tryz.aggSl]); (repeat' (first | (with_reducible intro h) | (with_reducible refine And.intro (by omega) ?_) | (with_reducible refine exP (by omega) ?_) | (with_reducible apply And.intro))))
  refine wloop mxd (ι := { k : Int // k = 0 ∨ (k = 1 ∧ (!b && sees ts i ⟨#[42]⟩) = false) ∨ (k = 2 ∧ (!b && sees ts i ⟨#[42]⟩) = false ∧ (!b && sees ts i ⟨#[38]⟩) = false) }) (fun k => [(0, .ptr rp 4 0 0), (4, I 0), (5, .sl 1 [T ⟨#[42]⟩, T ⟨#[38]⟩]), (6, .sl 1 [I 3, I 7]), (7, I k.1)]) (fun _ => H) (fun k => (2 - k.1).toNat) ⟨0, .inl rfl⟩ (by simp [E2]) rfl ?_
  rintro ⟨k, rfl | ⟨rfl, q0⟩ | ⟨rfl, q0, q1⟩⟩
  · ((try with_reducible refine mkQI ?_); (repeat ((first | (with_reducible refine mkQU ?_) | simp only [brGen]); try simp (maxSteps := 4000000) +contextual only [↓ S2, S2, vIte, ↓reduceIte, Int.reduceNe, Nat.reduceEqDiff, reduceCtorEq, Nat.reduceLeDiff, Nat.reduceAdd, Nat.reduceLT, hget_c, hset_c, hdel_c, neN, neA_cons, neA_nil, Int.reduceSub, Int.reduceToNat, List.getElem_cons_zero, List.getElem_cons_succ, Tryz.aggSl])); (try simp +contextual (disch := omega) only [Z2, Int.reduceSub, Int.reduceToNat, List.getElem_cons_zero, List.getElem_cons_succ, Tryz.aggSl]); (repeat' (first | (with_reducible intro h) | (with_reducible refine And.intro (by omega) ?_) | (with_reducible refine exP (by omega) ?_) | (with_reducible apply And.intro))))
    ((try with_reducible refine mkQI ?_); (repeat ((first | (with_reducible refine mkQU ?_) | simp only [brGen]); try simp (maxSteps := 4000000) +contextual only [↓ S2, S2, vIte, ↓reduceIte, Int.reduceNe, Nat.reduceEqDiff, reduceCtorEq, Nat.reduceLeDiff, Nat.reduceAdd, Nat.reduceLT, hget_c, hset_c, hdel_c, neN, neA_cons, neA_nil, Int.reduceSub, Int.reduceToNat, List.getElem_cons_zero, List.getElem_cons_succ, Tryz.aggSl])); (try simp +contextual (disch := omega) only [Z2, Int.reduceSub, Int.reduceToNat, List.getElem_cons_zero, List.getElem_cons_succ, Tryz.aggSl]); (repeat' (first | (with_reducible intro h) | (with_reducible refine And.intro (by omega) ?_) | (with_reducible refine exP (by omega) ?_) | (with_reducible apply And.intro))))
    all_goals try (exfalso; omega)
    refine callS.of (hs ⟨#[42]⟩) ?_
    rintro _ _ ⟨rfl, rfl⟩ _
    cases hq : (!b && sees ts i ⟨#[42]⟩) with
    | true =>
      ((try with_reducible refine mkQI ?_); (repeat ((first | (with_reducible refine mkQU ?_) | simp only [brGen]); try simp (maxSteps := 4000000) +contextual only [↓ S2, S2, vIte, ↓reduceIte, Int.reduceNe, Nat.reduceEqDiff, reduceCtorEq, Nat.reduceLeDiff, Nat.reduceAdd, Nat.reduceLT, hget_c, hset_c, hdel_c, neN, neA_cons, neA_nil, Int.reduceSub, Int.reduceToNat, List.getElem_cons_zero, List.getElem_cons_succ, Tryz.aggSl])); (try simp +contextual (disch := omega) only [Z2, Int.reduceSub, Int.reduceToNat, List.getElem_cons_zero, List.getElem_cons_succ, Tryz.aggSl]); (repeat' (first | (with_reducible intro h) | (with_reducible refine And.intro (by omega) ?_) | (with_reducible refine exP (by omega) ?_) | (with_reducible apply And.intro))))
      ((try with_reducible refine mkQI ?_); (repeat ((first | (with_reducible refine mkQU ?_) | simp only [brGen]); try simp (maxSteps := 4000000) +contextual only [↓ S2, S2, vIte, ↓reduceIte, Int.reduceNe, Nat.reduceEqDiff, reduceCtorEq, Nat.reduceLeDiff, Nat.reduceAdd, Nat.reduceLT, hget_c, hset_c, hdel_c, neN, neA_cons, neA_nil, Int.reduceSub, Int.reduceToNat, List.getElem_cons_zero, List.getElem_cons_succ, Tryz.aggSl])); (try simp +contextual (disch := omega) only [Z2, Int.reduceSub, Int.reduceToNat, List.getElem_cons_zero, List.getElem_cons_succ, Tryz.aggSl]); (repeat' (first | (with_reducible intro h) | (with_reducible refine And.intro (by omega) ?_) | (with_reducible refine exP (by omega) ?_) | (with_reducible apply And.intro))))
      all_goals first | (simp [hq]; done) | trace_state
    | false =>
      ((try with_reducible refine mkQI ?_); (repeat ((first | (with_reducible refine mkQU ?_) | simp only [brGen]); try simp (maxSteps := 4000000) +contextual only [↓ S2, S2, vIte, ↓reduceIte, Int.reduceNe, Nat.reduceEqDiff, reduceCtorEq, Nat.reduceLeDiff, Nat.reduceAdd, Nat.reduceLT, hget_c, hset_c, hdel_c, neN, neA_cons, neA_nil, ])); (try simp +contextual (disch := omega) only [Z2, ]); (repeat' (first | (with_reducible intro h) | (with_reducible refine And.intro (by omega) ?_) | (with_reducible refine exP (by omega) ?_) | (with_reducible apply And.intro))))
      all_goals exact nx ⟨1, .inr (.inl ⟨rfl, (by first | exact hq | rfl)⟩)⟩ (by dsimp only; decide) (by simp [E2]) rfl
  · ((try with_reducible refine mkQI ?_); (repeat ((first | (with_reducible refine mkQU ?_) | simp only [brGen]); try simp (maxSteps := 4000000) +contextual only [↓ S2, S2, vIte, ↓reduceIte, Int.reduceNe, Nat.reduceEqDiff, reduceCtorEq, Nat.reduceLeDiff, Nat.reduceAdd, Nat.reduceLT, hget_c, hset_c, hdel_c, neN, neA_cons, neA_nil, Int.reduceSub, Int.reduceToNat, List.getElem_cons_zero, List.getElem_cons_succ, Tryz.aggSl])); (try simp +contextual (disch := omega) only [Z2, Int.reduceSub, Int.reduceToNat, List.getElem_cons_zero, List.getElem_cons_succ, Tryz.aggSl]); (repeat' (first | (with_reducible intro h) | (with_reducible refine And.intro (by omega) ?_) | (with_reducible refine exP (by omega) ?_) | (with_reducible apply And.intro))))
    ((try with_reducible refine mkQI ?_); (repeat ((first | (with_reducible refine mkQU ?_) | simp only [brGen]); try simp (maxSteps := 4000000) +contextual only [↓ S2, S2, vIte, ↓reduceIte, Int.reduceNe, Nat.reduceEqDiff, reduceCtorEq, Nat.reduceLeDiff, Nat.reduceAdd, Nat.reduceLT, hget_c, hset_c, hdel_c, neN, neA_cons, neA_nil, Int.reduceSub, Int.reduceToNat, List.getElem_cons_zero, List.getElem_cons_succ, Tryz.aggSl])); (try simp +contextual (disch := omega) only [Z2, Int.reduceSub, Int.reduceToNat, List.getElem_cons_zero, List.getElem_cons_succ, Tryz.aggSl]); (repeat' (first | (with_reducible intro h) | (with_reducible refine And.intro (by omega) ?_) | (with_reducible refine exP (by omega) ?_) | (with_reducible apply And.intro))))
    all_goals try (exfalso; omega)
    refine callS.of (hs ⟨#[38]⟩) ?_
    rintro _ _ ⟨rfl, rfl⟩ _
    cases hq : (!b && sees ts i ⟨#[38]⟩) with
    | true =>
      ((try with_reducible refine mkQI ?_); (repeat ((first | (with_reducible refine mkQU ?_) | simp only [brGen]); try simp (maxSteps := 4000000) +contextual only [↓ S2, S2, vIte, ↓reduceIte, Int.reduceNe, Nat.reduceEqDiff, reduceCtorEq, Nat.reduceLeDiff, Nat.reduceAdd, Nat.reduceLT, hget_c, hset_c, hdel_c, neN, neA_cons, neA_nil, Int.reduceSub, Int.reduceToNat, List.getElem_cons_zero, List.getElem_cons_succ, Tryz.aggSl])); (try simp +contextual (disch := omega) only [Z2, Int.reduceSub, Int.reduceToNat, List.getElem_cons_zero, List.getElem_cons_succ, Tryz.aggSl]); (repeat' (first | (with_reducible intro h) | (with_reducible refine And.intro (by omega) ?_) | (with_reducible refine exP (by omega) ?_) | (with_reducible apply And.intro))))
      ((try with_reducible refine mkQI ?_); (repeat ((first | (with_reducible refine mkQU ?_) | simp only [brGen]); try simp (maxSteps := 4000000) +contextual only [↓ S2, S2, vIte, ↓reduceIte, Int.reduceNe, Nat.reduceEqDiff, reduceCtorEq, Nat.reduceLeDiff, Nat.reduceAdd, Nat.reduceLT, hget_c, hset_c, hdel_c, neN, neA_cons, neA_nil, Int.reduceSub, Int.reduceToNat, List.getElem_cons_zero, List.getElem_cons_succ, Tryz.aggSl])); (try simp +contextual (disch := omega) only [Z2, Int.reduceSub, Int.reduceToNat, List.getElem_cons_zero, List.getElem_cons_succ, Tryz.aggSl]); (repeat' (first | (with_reducible intro h) | (with_reducible refine And.intro (by omega) ?_) | (with_reducible refine exP (by omega) ?_) | (with_reducible apply And.intro))))
      all_goals first | (simp [hq, q0]; done) | trace_state
    | false =>
      ((try with_reducible refine mkQI ?_); (repeat ((first | (with_reducible refine mkQU ?_) | simp only [brGen]); try simp (maxSteps := 4000000) +contextual only [↓ S2, S2, vIte, ↓reduceIte, Int.reduceNe, Nat.reduceEqDiff, reduceCtorEq, Nat.reduceLeDiff, Nat.reduceAdd, Nat.reduceLT, hget_c, hset_c, hdel_c, neN, neA_cons, neA_nil, ])); (try simp +contextual (disch := omega) only [Z2, ]); (repeat' (first | (with_reducible intro h) | (with_reducible refine And.intro (by omega) ?_) | (with_reducible refine exP (by omega) ?_) | (with_reducible apply And.intro))))
      all_goals exact nx ⟨2, .inr (.inr (⟨rfl, q0, (by first | exact hq | rfl)⟩))⟩ (by dsimp only; decide) (by simp [E2]) rfl
  · ((try with_reducible refine mkQI ?_); (repeat ((first | (with_reducible refine mkQU ?_) | simp only [brGen]); try simp (maxSteps := 4000000) +contextual only [↓ S2, S2, vIte, ↓reduceIte, Int.reduceNe, Nat.reduceEqDiff, reduceCtorEq, Nat.reduceLeDiff, Nat.reduceAdd, Nat.reduceLT, hget_c, hset_c, hdel_c, neN, neA_cons, neA_nil, ])); (try simp +contextual (disch := omega) only [Z2, ]); (repeat' (first | (with_reducible intro h) | (with_reducible refine And.intro (by omega) ?_) | (with_reducible refine exP (by omega) ?_) | (with_reducible apply And.intro))))
    all_goals first | (simp [q0, q1]; done) | trace_state
theorem w107 {ts : List Go.Gh.Tok} {nE : Int} (hK : OkR ts nE) (i : Nat) (hi : i ≤ ts.length) (b : Bool) (lv : Nat) (h1 : 1 ≤ lv) (h3 : lv ≤ 3) (rp : Nat) (H : GH) (hr : hget H rp = some (4, [SpG ts nE i b])) :
    GCalls Tryz.prog 107 [.ptr rp 4 0 0, I lv] H (fun g H' => g = I (opB ts b i lv) ∧ H' = H) := by
  obtain rfl | rfl | rfl : lv = 1 ∨ lv = 2 ∨ lv = 3 := by omega
  · exact Tryz.sop1 hK i hi b rp H hr
  · exact Tryz.sop2 hK i hi b rp H hr
  · exact Tryz.sop3 hK i hi b rp H hr
end Go.Proofs.YtkmedfejmndmjaaGreatDoor

namespace Go.Proofs.YtkmedfejmndmjaaGreatDoor
open Go.Gh
set_option maxRecDepth 20000
set_option linter.unusedSimpArgs false
set_option linter.unusedVariables false
open Go.Lib
set_option maxHeartbeats 8000000 in
theorem Tryz.slev (lv : Nat) (h1 : 1 ≤ lv) (h3 : lv ≤ 3) {ts : List Go.Gh.Tok} {nE : Int} (hK : OkR ts nE) (X : Nat → PR Exp) (i0 : Nat) (hXb : ∀ i, BdA ts i (X i))
    (hX : ∀ (i : Nat) (b : Bool) (rp : Nat) (H : GH), i0 ≤ i → i ≤ ts.length → hget H rp = some (4, [SpG ts nE i b]) → GCalls Tryz.prog 74 [.ptr rp 4 0 0, I ((lv : Int) + 1)] H (EP (SpG ts nE) (frm b X i) rp H))
    (i : Nat) (b : Bool) (rp : Nat) (H : GH) (h0i : i0 ≤ i) (hi : i ≤ ts.length) (hr : hget H rp = some (4, [SpG ts nE i b])) : GCalls Tryz.prog 74 [.ptr rp 4 0 0, I lv] H (EP (SpG ts nE) (frm b (lvP ts X lv) i) rp H) := by
  have hlv3 : ¬ 3 < (lv : Int) := by omega
  have hl := hK.len
  generalize hR : frm b (lvP ts X lv) i = R
  have h0 : GCalls Tryz.prog 74 [.ptr rp 4 0 0, I lv] H (fun g H' => ∃ e r r5 u, r ≠ r5 ∧ g = EO r e ∧ H' = (r, 7, e.args.map ExO) :: (r5, 7, u) :: hset H rp [SpG ts nE R.at R.err] ∧ ∀ a j, R = .ok a j → e = a) := by
    refine gstart mxd i74 rfl (by simp) ?_; simp (maxSteps := 2000000) only [↓ S2, S2, vIte, ↓reduceIte, Int.reduceNe, Nat.reduceEqDiff, reduceCtorEq, Nat.reduceLeDiff, Nat.reduceAdd, Nat.reduceLT]
    ((try with_reducible refine mkQI ?_); (repeat ((first | (with_reducible refine mkQU ?_) | simp only [brGen]); try simp (maxSteps := 4000000) +contextual only [↓ S2, S2, vIte, ↓reduceIte, Int.reduceNe, Nat.reduceEqDiff, reduceCtorEq, Nat.reduceLeDiff, Nat.reduceAdd, Nat.reduceLT, hget_c, hset_c, hdel_c, neN, neA_cons, neA_nil, hlv3])); (try simp +contextual (disch := omega) only [Z2, hlv3]); (repeat' (first | (with_reducible intro h) | (with_reducible refine And.intro (by omega) ?_) | (with_reducible refine exP (by omega) ?_) | (with_reducible apply And.intro))))
    all_goals try (exfalso; omega)
    refine callS.of (hX i b rp H h0i hi hr) ?_
    rintro g H' ⟨e, r, rfl, rfl, he⟩ hn
    have hP : (frm b X i).at ≤ ts.length := frm_bd (hXb i) hi
    have hP0 : i0 ≤ (frm b X i).at := Nat.le_trans h0i (frm_ge (hXb i) hi)
    generalize hPP : frm b X i = P at *
    have hr1 := hget_set (fs := [SpG ts nE P.at P.err]) hr
    have hrp := ne_of_new hn hr1
    replace hn := neH_of hn
    (replace hn := hn; simp only [neH_cons, neH_nil, neA_cons, neA_nil, and_true, true_and] at hn)
    ((try with_reducible refine mkQI ?_); (repeat ((first | (with_reducible refine mkQU ?_) | simp only [brGen]); try simp (maxSteps := 4000000) +contextual only [↓ S2, S2, vIte, ↓reduceIte, Int.reduceNe, Nat.reduceEqDiff, reduceCtorEq, Nat.reduceLeDiff, Nat.reduceAdd, Nat.reduceLT, hget_c, hset_c, hdel_c, neN, neA_cons, neA_nil, hn])); (try simp +contextual (disch := omega) only [Z2, hn]); (repeat' (first | (with_reducible intro h) | (with_reducible refine And.intro (by omega) ?_) | (with_reducible refine exP (by omega) ?_) | (with_reducible apply And.intro))))
    all_goals try (exfalso; omega)
    rename_i r5
    have hr5 := neA_get h.1.2.2 hr1
    have hne := h.1.2.1
    clear hn
    have hinv : (P.err = true → R = .bad P.at) ∧ (P.err = false → ∃ F, ts.length - P.at < F ∧ rowP ts X lv F e P.at = R) := by
      cases b with
      | true => rw [frm_t] at hPP hR; subst hPP hR; exact ⟨fun _ => rfl, fun h => by cases h⟩
      | false =>
        rw [frm_f] at hPP hR
        unfold lvP at hR
        rw [hPP] at hR
        cases P with
        | bad k => exact ⟨fun _ => hR.symm, fun h => by cases h⟩
        | ok a k =>
          obtain rfl := he a k rfl
          exact ⟨(fun h => by cases h), fun _ => ⟨ts.length + 1, by omega, hR⟩⟩
    refine wloopF mxd (ι := { y : Nat × Bool × Exp × Nat // (i0 ≤ y.1 ∧ y.1 ≤ ts.length) ∧ y.2.2.2 ≠ r5 ∧ (y.2.1 = true → R = .bad y.1) ∧ (y.2.1 = false → ∃ F, ts.length - y.1 < F ∧ rowP ts X lv F y.2.2.1 y.1 = R) }) (fun y => [(0, .ptr rp 4 0 0), (1, I lv), (4, .raw 7), (5, .ptr r5 7 0 0)]) (fun y => (y.1.2.2.2, 7, y.1.2.2.1.args.map ExO) :: (r5, 7, [EO y.1.2.2.2 y.1.2.2.1]) :: hset H rp [SpG ts nE y.1.1 y.1.2.1]) (fun y => if y.1.2.1 = true then 0 else ts.length - y.1.1 + 1) ⟨(P.at, P.err, e, r), ⟨hP0, hP⟩, hne, hinv.1, hinv.2⟩ FE.swap (by simp [E2]) rfl ?_
    clear hinv he hPP hP hP0 hr1 hrp hne h
    rintro ⟨⟨k, c, e, r⟩, ⟨hk0, hk⟩, hne, h1', h2⟩ hn
    dsimp only at hk0 hk hne h1' h2 hn ⊢
    refine gwp_ok mxd ?_
    have hrp : r ≠ rp := ne_of_new hn (by rw [hget_old hr5]; exact hget_set hr)
    have hg1 : hget ((r, 7, e.args.map ExO) :: (r5, 7, [EO r e]) :: hset H rp [SpG ts nE k c]) rp = some (4, [SpG ts nE k c]) := by rw [hget_old hrp, hget_old hr5]; exact hget_set hr
    have hop := w107 hK k hk c lv h1 h3 rp _ hg1
    by_cases ho : opB ts c k lv = 0
    · have hRk : R.at = k ∧ R.err = c ∧ ∀ a j, R = .ok a j → e = a := by
        cases c with
        | true => rw [h1' rfl]; exact ⟨rfl, rfl, fun a j h => by cases h⟩
        | false =>
          obtain ⟨F, hF, hs⟩ := h2 rfl
          obtain ⟨F, rfl⟩ : ∃ G, F = G + 1 := ⟨F - 1, by omega⟩
          simp only [rowP] at hs
          rw [if_pos (show Go.Gh.opAt ts k lv = 0 from ho)] at hs
          subst hs
          exact ⟨rfl, rfl, fun a j h => by cases h; rfl⟩
      ((try with_reducible refine mkQI ?_); (repeat ((first | (with_reducible refine mkQU ?_) | simp only [brGen]); try simp (maxSteps := 4000000) +contextual only [↓ S2, S2, vIte, ↓reduceIte, Int.reduceNe, Nat.reduceEqDiff, reduceCtorEq, Nat.reduceLeDiff, Nat.reduceAdd, Nat.reduceLT, hget_c, hset_c, hdel_c, neN, neA_cons, neA_nil, ])); (try simp +contextual (disch := omega) only [Z2, ]); (repeat' (first | (with_reducible intro h) | (with_reducible refine And.intro (by omega) ?_) | (with_reducible refine exP (by omega) ?_) | (with_reducible apply And.intro))))
      refine callS.of hop ?_
      rintro _ _ ⟨rfl, rfl⟩ _
      ((try with_reducible refine mkQI ?_); (repeat ((first | (with_reducible refine mkQU ?_) | simp only [brGen]); try simp (maxSteps := 4000000) +contextual only [↓ S2, S2, vIte, ↓reduceIte, Int.reduceNe, Nat.reduceEqDiff, reduceCtorEq, Nat.reduceLeDiff, Nat.reduceAdd, Nat.reduceLT, hget_c, hset_c, hdel_c, neN, neA_cons, neA_nil, ho, hne])); (try simp +contextual (disch := omega) only [Z2, ho, hne]); (repeat' (first | (with_reducible intro h) | (with_reducible refine And.intro (by omega) ?_) | (with_reducible refine exP (by omega) ?_) | (with_reducible apply And.intro))))
      all_goals try (exfalso; omega)
      all_goals exact ⟨e, r, r5, _, hne, rfl, by rw [hRk.1, hRk.2.1], hRk.2.2⟩
    · obtain rfl : c = false := by
        cases c with
        | true => exact absurd rfl ho
        | false => rfl
      have hlt : k < ts.length := by
        rcases Nat.lt_or_ge k ts.length with h | h
        · exact h
        · exact absurd (opB_ge h lv) ho
      obtain ⟨F, hF, hs⟩ := h2 rfl
      obtain ⟨F, rfl⟩ : ∃ G, F = G + 1 := ⟨F - 1, by omega⟩
      simp only [rowP] at hs
      rw [if_neg (show ¬ Go.Gh.opAt ts k lv = 0 from ho)] at hs
      have hop' : Go.Gh.opAt ts k lv = opB ts false k lv := rfl
      rw [hop'] at hs
      have hbd := hXb (k + 1) (by omega)
      have hg0 := hget_set (fs := [SpG ts nE (k + 1) false]) hr
      have hx := hX (k + 1) false rp ((r, 7, e.args.map ExO) :: (r5, 7, [EO r e]) :: hset H rp [SpG ts nE (k + 1) false]) (by omega) (by omega) (by rw [hget_old hrp, hget_old hr5]; exact hg0)
      rw [frm_f] at hx
      generalize hXX : X (k + 1) = Q at *
      generalize opB ts false k lv = o at *
      have hne' : r5 ≠ r := Ne.symm hne
      have hgs : hget (hset H rp [SpG ts nE k false]) rp = some (4, [SpG ts nE k false]) := hget_set hr
      ((try with_reducible refine mkQI ?_); (repeat ((first | (with_reducible refine mkQU ?_) | simp only [brGen]); try simp (maxSteps := 4000000) +contextual only [↓ S2, S2, vIte, ↓reduceIte, Int.reduceNe, Nat.reduceEqDiff, reduceCtorEq, Nat.reduceLeDiff, Nat.reduceAdd, Nat.reduceLT, hget_c, hset_c, hdel_c, neN, neA_cons, neA_nil, ])); (try simp +contextual (disch := omega) only [Z2, ]); (repeat' (first | (with_reducible intro h) | (with_reducible refine And.intro (by omega) ?_) | (with_reducible refine exP (by omega) ?_) | (with_reducible apply And.intro))))
      refine callS.of hop ?_
      rintro _ _ ⟨rfl, rfl⟩ _
      ((try with_reducible refine mkQI ?_); (repeat ((first | (with_reducible refine mkQU ?_) | simp only [brGen]); try simp (maxSteps := 4000000) +contextual only [↓ S2, S2, vIte, ↓reduceIte, Int.reduceNe, Nat.reduceEqDiff, reduceCtorEq, Nat.reduceLeDiff, Nat.reduceAdd, Nat.reduceLT, hget_c, hset_c, hdel_c, neN, neA_cons, neA_nil, ho, hne, hne', hrp, hr5, hgs, bdO_f, m1lt, m1ge, hset_set])); (try simp +contextual (disch := omega) only [Z2, ho, hne, hne', hrp, hr5, hgs, bdO_f, m1lt, m1ge, hset_set]); (repeat' (first | (with_reducible intro h) | (with_reducible refine And.intro (by omega) ?_) | (with_reducible refine exP (by omega) ?_) | (with_reducible apply And.intro))))
      all_goals try (exfalso; omega)
      rw [show hset H rp [.agg [TkS ts, I ((k : Int) + 1), I nE, I (-1)]] = hset H rp [SpG ts nE (k + 1) false] from rfl]
      refine callK.of hx ?_
      rintro g H' ⟨e2, q, rfl, rfl, he2⟩ hq
      have hqr5 : q ≠ r5 := ne_of_new hq (by rw [hset_old hrp, hset_old hr5, hget_old hne]; exact hget_new)
      have hqr : q ≠ r := ne_of_new hq (by rw [hset_old hrp, hset_old hr5]; exact hget_new)
      rw [hset_old hrp, hset_old hr5, hset_set]
      refine ⟨⟨by simp [kpt1, eget, hget_old hqr5, hget_old hne, hget_new], trivial⟩, ?_⟩
      ((try with_reducible refine mkQI ?_); (repeat ((first | (with_reducible refine mkQU ?_) | simp only [brGen]); try simp (maxSteps := 4000000) +contextual only [↓ S2, S2, vIte, ↓reduceIte, Int.reduceNe, Nat.reduceEqDiff, reduceCtorEq, Nat.reduceLeDiff, Nat.reduceAdd, Nat.reduceLT, hget_c, hset_c, hdel_c, neN, neA_cons, neA_nil, ])); (try simp +contextual (disch := omega) only [Z2, ]); (repeat' (first | (with_reducible intro h) | (with_reducible refine And.intro (by omega) ?_) | (with_reducible refine exP (by omega) ?_) | (with_reducible apply And.intro))))
      have hgr : hget ((q, 7, e2.args.map ExO) :: (r, 7, e.args.map ExO) :: (r5, 7, [EO r e]) :: hset H rp [SpG ts nE Q.at Q.err]) r = some (7, e.args.map ExO) := by rw [hget_old hqr]; exact hget_new
      refine callS.of (q48 o e e2 r q _ (Ne.symm hqr) hgr hget_new) ?_
      rintro g H' ⟨r3, rfl, rfl⟩ hn3
      have hd : hdel (hdel ((q, 7, e2.args.map ExO) :: (r, 7, e.args.map ExO) :: (r5, 7, [EO r e]) :: hset H rp [SpG ts nE Q.at Q.err]) r) q = (r5, 7, [EO r e]) :: hset H rp [SpG ts nE Q.at Q.err] := by simp [hdel, hqr]
      rw [hd] at hn3 ⊢
      have h35 : r3 ≠ r5 := ne_of_new hn3 hget_new
      have hg2 := hget_set (fs := [SpG ts nE Q.at Q.err]) hr
      have h3p : r3 ≠ rp := ne_of_new hn3 (by rw [hget_old hr5]; exact hg2)
      have hQ : Q.at ≤ ts.length := hbd.2
      have hQ1 : k + 1 ≤ Q.at := hbd.1
      by_cases hl1 : lv = 1
      · subst hl1
        have hRk : R.at = Q.at ∧ R.err = Q.err ∧ ∀ a j, R = .ok a j → opE o e e2 = a := by
          subst hs
          cases Q with
          | bad j => exact ⟨rfl, rfl, fun a j h => by cases h⟩
          | ok a j =>
            obtain rfl := he2 a j rfl
            exact ⟨rfl, rfl, fun a j h => by cases h; rfl⟩
        have e1 : (((1 : Nat) : Int) = 1) = True := eq_true rfl
        ((try with_reducible refine mkQI ?_); (repeat ((first | (with_reducible refine mkQU ?_) | simp only [brGen]); try simp (maxSteps := 4000000) +contextual only [↓ S2, S2, vIte, ↓reduceIte, Int.reduceNe, Nat.reduceEqDiff, reduceCtorEq, Nat.reduceLeDiff, Nat.reduceAdd, Nat.reduceLT, hget_c, hset_c, hdel_c, neN, neA_cons, neA_nil, h35, e1])); (try simp +contextual (disch := omega) only [Z2, h35, e1]); (repeat' (first | (with_reducible intro h) | (with_reducible refine And.intro (by omega) ?_) | (with_reducible refine exP (by omega) ?_) | (with_reducible apply And.intro))))
        all_goals try (exfalso; omega)
        all_goals exact ⟨opE o e e2, r3, r5, _, h35, rfl, by rw [hRk.1, hRk.2.1], hRk.2.2⟩
      · have hn1 : Q.err = true → R = .bad Q.at := fun h => by
          cases Q with
          | bad j => exact hs.symm
          | ok a j => cases h
        have hn2 : Q.err = false → ∃ F, ts.length - Q.at < F ∧ rowP ts X lv F (opE o e e2) Q.at = R := fun h => by
          cases Q with
          | bad j => cases h
          | ok a j =>
            obtain rfl := he2 a j rfl
            simp only [PR.bind] at hs
            rw [if_neg hl1] at hs
            have hQ1 : k + 1 ≤ j := hQ1
            exact ⟨F, by show ts.length - j < F; omega, hs⟩
        have hlv1 : ((lv : Int) = 1) = False := eq_false (by omega)
        ((try with_reducible refine mkQI ?_); (repeat ((first | (with_reducible refine mkQU ?_) | simp only [brGen]); try simp (maxSteps := 4000000) +contextual only [↓ S2, S2, vIte, ↓reduceIte, Int.reduceNe, Nat.reduceEqDiff, reduceCtorEq, Nat.reduceLeDiff, Nat.reduceAdd, Nat.reduceLT, hget_c, hset_c, hdel_c, neN, neA_cons, neA_nil, h35, hlv1])); (try simp +contextual (disch := omega) only [Z2, h35, hlv1]); (repeat' (first | (with_reducible intro h) | (with_reducible refine And.intro (by omega) ?_) | (with_reducible refine exP (by omega) ?_) | (with_reducible apply And.intro))))
        all_goals try (exfalso; omega)
        exact nx ⟨(Q.at, Q.err, opE o e e2, r3), ⟨by show i0 ≤ Q.at; omega, hQ⟩, h35, hn1, hn2⟩ (by dsimp only; simp only [Bool.false_eq_true, if_false]; split <;> omega) (by simp [E2]) rfl
  refine h0.fr ?_
  rintro g H' ⟨e, r, r5, u, hne, rfl, rfl, he⟩
  exact ⟨_, _, FR.perm (H := [(r, 7, e.args.map ExO), (r5, 7, u)]) (L := [(r, 7, e.args.map ExO)]) (by simp [subH, hget, names]), e, r, rfl, rfl, he⟩
theorem Tryz.slev4 {ts : List Go.Gh.Tok} {nE : Int} (X : Nat → PR Exp) (i : Nat) (b : Bool) (rp : Nat) (H : GH)
    (hA : GCalls Tryz.prog 106 [.ptr rp 4 0 0] H (EP (SpG ts nE) (frm b X i) rp H)) : GCalls Tryz.prog 74 [.ptr rp 4 0 0, I 4] H (EP (SpG ts nE) (frm b X i) rp H) := by
  have e34 : ((3 : Int) < 4) = True := eq_true (by decide)
  refine gstart mxd i74 rfl (by simp) ?_; simp (maxSteps := 2000000) only [↓ S2, S2, vIte, ↓reduceIte, Int.reduceNe, Nat.reduceEqDiff, reduceCtorEq, Nat.reduceLeDiff, Nat.reduceAdd, Nat.reduceLT]
  ((try with_reducible refine mkQI ?_); (repeat ((first | (with_reducible refine mkQU ?_) | simp only [brGen]); try simp (maxSteps := 2000000) only [↓ S2, S2, vIte, ↓reduceIte, Int.reduceNe, Nat.reduceEqDiff, reduceCtorEq, Nat.reduceLeDiff, Nat.reduceAdd, Nat.reduceLT, e34, decide_true])); (try simp +contextual (disch := omega) only [Z2, e34, decide_true]); (repeat' (first | (with_reducible intro h) | (with_reducible refine And.intro (by omega) ?_) | (with_reducible refine exP (by omega) ?_) | (with_reducible apply And.intro))))
  refine callS.of hA ?_
  rintro _ _ ⟨e, r, rfl, rfl, he⟩ hn
  ((try with_reducible refine mkQI ?_); (repeat ((first | (with_reducible refine mkQU ?_) | simp only [brGen]); try simp (maxSteps := 2000000) only [↓ S2, S2, vIte, ↓reduceIte, Int.reduceNe, Nat.reduceEqDiff, reduceCtorEq, Nat.reduceLeDiff, Nat.reduceAdd, Nat.reduceLT, ])); (try simp +contextual (disch := omega) only [Z2, ]); (repeat' (first | (with_reducible intro h) | (with_reducible refine And.intro (by omega) ?_) | (with_reducible refine exP (by omega) ?_) | (with_reducible apply And.intro))))
  exact ⟨e, r, rfl, rfl, he⟩
end Go.Proofs.YtkmedfejmndmjaaGreatDoor

namespace Go.Proofs.YtkmedfejmndmjaaGreatDoor
open Go.Gh
set_option maxRecDepth 20000
set_option linter.unusedSimpArgs false
set_option linter.unusedVariables false
open Go.Lib
set_option maxHeartbeats 8000000 in
theorem Tryz.sexprI {ts : List Go.Gh.Tok} {nE : Int} (hK : OkR ts nE) (i : Nat) (hi : i ≤ ts.length) (hs : sees ts i wIf = true)
    (hE : ∀ (j : Nat) (b : Bool) (rp : Nat) (H : GH), i < j → j ≤ ts.length → hget H rp = some (4, [SpG ts nE j b]) → GCalls Tryz.prog 38 [.ptr rp 4 0 0] H (EP (SpG ts nE) (frm b (rE ts) j) rp H))
    (rp : Nat) (H : GH) (hr : hget H rp = some (4, [SpG ts nE i false])) : GCalls Tryz.prog 38 [.ptr rp 4 0 0] H (EP (SpG ts nE) (rE ts i) rp H) := by
  have h2 : ∀ fs, hget (hset H rp fs) rp = some (4, fs) := fun fs => hget_set hr
  have hi1 : i + 1 ≤ ts.length := sees_lt hs
  generalize hR : rE ts i = R
  rw [rE_eq hi] at hR
  unfold exprP at hR
  rw [if_pos hs] at hR
  refine EP.of ?_
  refine gstart mxd i38 rfl (by simp) ?_; simp (maxSteps := 2000000) only [↓ S2, S2, vIte, ↓reduceIte, Int.reduceNe, Nat.reduceEqDiff, reduceCtorEq, Nat.reduceLeDiff, Nat.reduceAdd, Nat.reduceLT]
  ((try with_reducible refine mkQI ?_); (repeat ((first | (with_reducible refine mkQU ?_) | simp only [brGen]); try simp (maxSteps := 2000000) only [↓ S2, S2, vIte, ↓reduceIte, Int.reduceNe, Nat.reduceEqDiff, reduceCtorEq, Nat.reduceLeDiff, Nat.reduceAdd, Nat.reduceLT, ])); (try simp +contextual (disch := omega) only [Z2, ]); (repeat' (first | (with_reducible intro h) | (with_reducible refine And.intro (by omega) ?_) | (with_reducible refine exP (by omega) ?_) | (with_reducible apply And.intro))))
  have hs0 := w73 hK i hi false wIf rp H hr
  rw [hs] at hs0
  have hl := hK.len
  refine callS.of hs0 ?_
  rintro _ H9 ⟨rfl, e9⟩ _
  rw [e9]
  ((try with_reducible refine mkQI ?_); (repeat ((first | (with_reducible refine mkQU ?_) | simp only [brGen]); try simp (maxSteps := 2000000) only [↓ S2, S2, vIte, ↓reduceIte, Int.reduceNe, Nat.reduceEqDiff, reduceCtorEq, Nat.reduceLeDiff, Nat.reduceAdd, Nat.reduceLT, hr, bdO_f, m1lt, m1ge, Bool.not_false, Bool.true_and, Bool.not_true])); (try simp +contextual (disch := omega) only [Z2, hr, bdO_f, m1lt, m1ge, Bool.not_false, Bool.true_and, Bool.not_true]); (repeat' (first | (with_reducible intro h) | (with_reducible refine And.intro (by omega) ?_) | (with_reducible refine exP (by omega) ?_) | (with_reducible apply And.intro))))
  rw [show hset H rp [.agg [TkS ts, I ((i : Int) + 1), I nE, I (-1)]] = hset H rp [SpG ts nE (i + 1) false] from rfl]
  have b1 : (frm false (rE ts) (i + 1)).at ≤ ts.length := frm_bd (rE_bd _) hi1
  have l1 : i < (frm false (rE ts) (i + 1)).at := frm_ge (rE_bd _) hi1
  refine callS.of (hE (i + 1) false rp _ (Nat.lt_succ_self i) hi1 (h2 _)) ?_
  rintro _ _ ⟨ea, ra, rfl, rfl, hea⟩ hna
  rw [hset_set] at hna ⊢
  have hrap : ra ≠ rp := ne_of_new hna (h2 _)
  generalize hP1 : frm false (rE ts) (i + 1) = P1 at *
  ((try with_reducible refine mkQI ?_); (repeat ((first | (with_reducible refine mkQU ?_) | simp only [brGen]); try simp (maxSteps := 2000000) only [↓ S2, S2, vIte, ↓reduceIte, Int.reduceNe, Nat.reduceEqDiff, reduceCtorEq, Nat.reduceLeDiff, Nat.reduceAdd, Nat.reduceLT, hrap])); (try simp +contextual (disch := omega) only [Z2, hrap]); (repeat' (first | (with_reducible intro h) | (with_reducible refine And.intro (by omega) ?_) | (with_reducible refine exP (by omega) ?_) | (with_reducible apply And.intro))))
  have b2 : (frm P1.err (fun i => takeW ts i wThen) P1.at).at ≤ ts.length := frm_bd (ba_take _ _) b1
  have l2 : i < (frm P1.err (fun i => takeW ts i wThen) P1.at).at := Nat.lt_of_lt_of_le l1 (frm_ge (ba_take _ _) b1)
  refine callS.of (w75 hK P1.at b1 P1.err wThen rp _ (by rw [hget_old hrap]; exact h2 _)) ?_
  rintro _ _ rfl _
  rw [hset_old hrap, hset_set]
  generalize hP2 : frm P1.err (fun i => takeW ts i wThen) P1.at = P2 at *
  ((try with_reducible refine mkQI ?_); (repeat ((first | (with_reducible refine mkQU ?_) | simp only [brGen]); try simp (maxSteps := 2000000) only [↓ S2, S2, vIte, ↓reduceIte, Int.reduceNe, Nat.reduceEqDiff, reduceCtorEq, Nat.reduceLeDiff, Nat.reduceAdd, Nat.reduceLT, hrap])); (try simp +contextual (disch := omega) only [Z2, hrap]); (repeat' (first | (with_reducible intro h) | (with_reducible refine And.intro (by omega) ?_) | (with_reducible refine exP (by omega) ?_) | (with_reducible apply And.intro))))
  have b3 : (frm P2.err (rE ts) P2.at).at ≤ ts.length := frm_bd (rE_bd _) b2
  have l3 : i < (frm P2.err (rE ts) P2.at).at := Nat.lt_of_lt_of_le l2 (frm_ge (rE_bd _) b2)
  refine callS.of (hE P2.at P2.err rp _ l2 b2 (by rw [hget_old hrap]; exact h2 _)) ?_
  rintro _ _ ⟨eb, rb, rfl, rfl, heb⟩ hnb
  rw [hset_old hrap, hset_set] at hnb ⊢
  have hrba : rb ≠ ra := ne_of_new hnb hget_new
  have hrbp : rb ≠ rp := ne_of_new hnb (by rw [hget_old hrap]; exact h2 _)
  generalize hP3 : frm P2.err (rE ts) P2.at = P3 at *
  ((try with_reducible refine mkQI ?_); (repeat ((first | (with_reducible refine mkQU ?_) | simp only [brGen]); try simp (maxSteps := 2000000) only [↓ S2, S2, vIte, ↓reduceIte, Int.reduceNe, Nat.reduceEqDiff, reduceCtorEq, Nat.reduceLeDiff, Nat.reduceAdd, Nat.reduceLT, hrap, hrbp, hrba])); (try simp +contextual (disch := omega) only [Z2, hrap, hrbp, hrba]); (repeat' (first | (with_reducible intro h) | (with_reducible refine And.intro (by omega) ?_) | (with_reducible refine exP (by omega) ?_) | (with_reducible apply And.intro))))
  have b4 : (frm P3.err (fun i => takeW ts i wElse) P3.at).at ≤ ts.length := frm_bd (ba_take _ _) b3
  have l4 : i < (frm P3.err (fun i => takeW ts i wElse) P3.at).at := Nat.lt_of_lt_of_le l3 (frm_ge (ba_take _ _) b3)
  refine callS.of (w75 hK P3.at b3 P3.err wElse rp _ (by rw [hget_old hrbp, hget_old hrap]; exact h2 _)) ?_
  rintro _ _ rfl _
  rw [hset_old hrbp, hset_old hrap, hset_set]
  generalize hP4 : frm P3.err (fun i => takeW ts i wElse) P3.at = P4 at *
  ((try with_reducible refine mkQI ?_); (repeat ((first | (with_reducible refine mkQU ?_) | simp only [brGen]); try simp (maxSteps := 2000000) only [↓ S2, S2, vIte, ↓reduceIte, Int.reduceNe, Nat.reduceEqDiff, reduceCtorEq, Nat.reduceLeDiff, Nat.reduceAdd, Nat.reduceLT, hrap, hrbp, hrba])); (try simp +contextual (disch := omega) only [Z2, hrap, hrbp, hrba]); (repeat' (first | (with_reducible intro h) | (with_reducible refine And.intro (by omega) ?_) | (with_reducible refine exP (by omega) ?_) | (with_reducible apply And.intro))))
  refine callS.of (hE P4.at P4.err rp _ l4 b4 (by rw [hget_old hrbp, hget_old hrap]; exact h2 _)) ?_
  rintro _ _ ⟨ec, rc, rfl, rfl, hec⟩ hnc
  rw [hset_old hrbp, hset_old hrap, hset_set] at hnc ⊢
  have hrcb : rc ≠ rb := ne_of_new hnc hget_new
  have hrca : rc ≠ ra := ne_of_new hnc (by rw [hget_old hrba]; exact hget_new)
  have hrcp : rc ≠ rp := ne_of_new hnc (by rw [hget_old hrbp, hget_old hrap]; exact h2 _)
  generalize hP5 : frm P4.err (rE ts) P4.at = P5 at *
  replace hnc := neH_of hnc
  (replace hnc := hnc; simp only [neH_cons, neH_nil, neA_cons, neA_nil, and_true, true_and] at hnc)
  ((try with_reducible refine mkQI ?_); (repeat ((first | (with_reducible refine mkQU ?_) | simp only [brGen]); try simp (maxSteps := 2000000) only [↓ S2, S2, vIte, ↓reduceIte, Int.reduceNe, Nat.reduceEqDiff, reduceCtorEq, Nat.reduceLeDiff, Nat.reduceAdd, Nat.reduceLT, hrap, hrbp, hrba, hrca, hrcb, hrcp, hnc])); (try simp +contextual (disch := omega) only [Z2, hrap, hrbp, hrba, hrca, hrcb, hrcp, hnc]); (repeat' (first | (with_reducible intro h) | (with_reducible refine And.intro (by omega) ?_) | (with_reducible refine exP (by omega) ?_) | (with_reducible apply And.intro))))
  rename_i q
  have q1 : q ≠ ra := (by intro hh; subst hh; simp [names] at h)
  have q2 : q ≠ rb := (by intro hh; subst hh; simp [names] at h)
  have q3 : q ≠ rc := (by intro hh; subst hh; simp [names] at h)
  rw [frm_f] at hP1
  rw [frm_bind] at hP2 hP3 hP4 hP5
  have hS : StP P5 R := by
    subst hR hP5 hP4 hP3 hP2 hP1
    simp only [bind_as]
    exact StP.bind _ fun _ j => StP.bind _ fun _ j => StP.bind _ fun _ j => StP.bind _ fun _ j => StP.last _ _
  refine .inr (.inr (.inr ⟨ea, eb, ec, ra, rb, rc, q, q1, q2, q3, hrca, hrcb, hrba, rfl, by rw [hS.1, hS.2], ?_⟩))
  subst hR
  intro x j hx
  obtain ⟨a, m, g1, hx⟩ := bind_ok hx
  obtain ⟨u, k, g2, hx⟩ := bind_ok hx
  obtain ⟨b, p, g3, hx⟩ := bind_ok hx
  obtain ⟨u2, o, g4, hx⟩ := bind_ok hx
  obtain ⟨c, o2, g5, hx⟩ := bind_ok hx
  have f1 : P1 = .ok a m := by rw [← hP1]; exact g1
  have f2 : P2 = .ok u k := by rw [← hP2, f1]; exact g2
  have f3 : P3 = .ok b p := by rw [← hP3, f2]; exact g3
  have f4 : P4 = .ok u2 o := by rw [← hP4, f3]; exact g4
  have f5 : P5 = .ok c o2 := by rw [← hP5, f4]; exact g5
  cases hx
  rw [hea _ _ f1, heb _ _ f3, hec _ _ f5]
theorem Tryz.sbothS {ts : List Go.Gh.Tok} {nE : Int} (hK : OkR ts nE) : ∀ (d i : Nat), ts.length - i ≤ d → i ≤ ts.length →
    (∀ (b : Bool) (rp : Nat) (H : GH), hget H rp = some (4, [SpG ts nE i b]) → GCalls Tryz.prog 38 [.ptr rp 4 0 0] H (EP (SpG ts nE) (frm b (rE ts) i) rp H)) ∧
    (∀ (b : Bool) (rp : Nat) (H : GH), hget H rp = some (4, [SpG ts nE i b]) → GCalls Tryz.prog 106 [.ptr rp 4 0 0] H (EP (SpG ts nE) (frm b (rA ts) i) rp H)) := by
  have key : ∀ (i : Nat), i ≤ ts.length →
      (∀ (j : Nat), i < j → j ≤ ts.length → (∀ (b : Bool) (rp : Nat) (H : GH), hget H rp = some (4, [SpG ts nE j b]) → GCalls Tryz.prog 38 [.ptr rp 4 0 0] H (EP (SpG ts nE) (frm b (rE ts) j) rp H)) ∧
        (∀ (b : Bool) (rp : Nat) (H : GH), hget H rp = some (4, [SpG ts nE j b]) → GCalls Tryz.prog 106 [.ptr rp 4 0 0] H (EP (SpG ts nE) (frm b (rA ts) j) rp H))) →
      (∀ (b : Bool) (rp : Nat) (H : GH), hget H rp = some (4, [SpG ts nE i b]) → GCalls Tryz.prog 38 [.ptr rp 4 0 0] H (EP (SpG ts nE) (frm b (rE ts) i) rp H)) ∧
      (∀ (b : Bool) (rp : Nat) (H : GH), hget H rp = some (4, [SpG ts nE i b]) → GCalls Tryz.prog 106 [.ptr rp 4 0 0] H (EP (SpG ts nE) (frm b (rA ts) i) rp H)) := by
    intro i hi ih
    have hE : ∀ (j : Nat) (b : Bool) (rp : Nat) (H : GH), i < j → j ≤ ts.length → hget H rp = some (4, [SpG ts nE j b]) → GCalls Tryz.prog 38 [.ptr rp 4 0 0] H (EP (SpG ts nE) (frm b (rE ts) j) rp H) := fun j b rp H h1 h2 h3 => (ih j h1 h2).1 b rp H h3
    have hA : ∀ (j : Nat) (b : Bool) (rp : Nat) (H : GH), i < j → j ≤ ts.length → hget H rp = some (4, [SpG ts nE j b]) → GCalls Tryz.prog 106 [.ptr rp 4 0 0] H (EP (SpG ts nE) (frm b (rA ts) j) rp H) := fun j b rp H h1 h2 h3 => (ih j h1 h2).2 b rp H h3
    have hAt := Tryz.satomS hK i hi hE hA
    refine ⟨?_, hAt⟩
    intro b rp H hr
    by_cases hs : b = true ∨ sees ts i wIf = false
    · have hA4 : ∀ (j : Nat) (b : Bool) (rp : Nat) (H : GH), i ≤ j → j ≤ ts.length → hget H rp = some (4, [SpG ts nE j b]) → GCalls Tryz.prog 74 [.ptr rp 4 0 0, I 4] H (EP (SpG ts nE) (frm b (rA ts) j) rp H) := by
        intro j b rp H h1 h2 h3
        refine Tryz.slev4 _ j b rp H ?_
        rcases Nat.lt_or_ge i j with h | h
        · exact hA j b rp H h h2 h3
        · obtain rfl : j = i := by omega
          exact hAt b rp H h3
      have hA3 : ∀ (j : Nat) (b : Bool) (rp : Nat) (H : GH), i ≤ j → j ≤ ts.length → hget H rp = some (4, [SpG ts nE j b]) → GCalls Tryz.prog 74 [.ptr rp 4 0 0, I 3] H (EP (SpG ts nE) (frm b (lvP ts (rA ts) 3) j) rp H) := by
        intro j b rp H h1 h2 h3
        exact Tryz.slev 3 (by omega) (by omega) hK (rA ts) i rA_bd hA4 j b rp H h1 h2 h3
      have hA2 : ∀ (j : Nat) (b : Bool) (rp : Nat) (H : GH), i ≤ j → j ≤ ts.length → hget H rp = some (4, [SpG ts nE j b]) → GCalls Tryz.prog 74 [.ptr rp 4 0 0, I 2] H (EP (SpG ts nE) (frm b (lvP ts (lvP ts (rA ts) 3) 2) j) rp H) := by
        intro j b rp H h1 h2 h3
        exact Tryz.slev 2 (by omega) (by omega) hK (lvP ts (rA ts) 3) i (fun i => ba_lv rA_bd 3 i) hA3 j b rp H h1 h2 h3
      have h : GCalls Tryz.prog 38 [.ptr rp 4 0 0] H (EP (SpG ts nE) (frm b (lvP ts (lvP ts (lvP ts (rA ts) 3) 2) 1) i) rp H) := by
        have hlv := Tryz.slev 1 (by omega) (by omega) hK (lvP ts (lvP ts (rA ts) 3) 2) i (fun i => ba_lv (fun i => ba_lv rA_bd 3 i) 2 i) hA2 i b rp H (Nat.le_refl _) hi hr
        have hs0 := w73 hK i hi b wIf rp H hr
        have hq : (!b && sees ts i wIf) = false := by rcases hs with rfl | h <;> simp [*]
        rw [hq] at hs0
        refine gstart mxd i38 rfl (by simp) ?_; simp (maxSteps := 2000000) only [↓ S2, S2, vIte, ↓reduceIte, Int.reduceNe, Nat.reduceEqDiff, reduceCtorEq, Nat.reduceLeDiff, Nat.reduceAdd, Nat.reduceLT]
        ((try with_reducible refine mkQI ?_); (repeat ((first | (with_reducible refine mkQU ?_) | simp only [brGen]); try simp (maxSteps := 2000000) only [↓ S2, S2, vIte, ↓reduceIte, Int.reduceNe, Nat.reduceEqDiff, reduceCtorEq, Nat.reduceLeDiff, Nat.reduceAdd, Nat.reduceLT, ])); (try simp +contextual (disch := omega) only [Z2, ]); (repeat' (first | (with_reducible intro h) | (with_reducible refine And.intro (by omega) ?_) | (with_reducible refine exP (by omega) ?_) | (with_reducible apply And.intro))))
        refine callS.of hs0 ?_
        rintro _ H9 ⟨rfl, e9⟩ _
        rw [e9]
        ((try with_reducible refine mkQI ?_); (repeat ((first | (with_reducible refine mkQU ?_) | simp only [brGen]); try simp (maxSteps := 2000000) only [↓ S2, S2, vIte, ↓reduceIte, Int.reduceNe, Nat.reduceEqDiff, reduceCtorEq, Nat.reduceLeDiff, Nat.reduceAdd, Nat.reduceLT, Bool.not_false])); (try simp +contextual (disch := omega) only [Z2, Bool.not_false]); (repeat' (first | (with_reducible intro h) | (with_reducible refine And.intro (by omega) ?_) | (with_reducible refine exP (by omega) ?_) | (with_reducible apply And.intro))))
        refine callS.of hlv ?_
        rintro _ _ ⟨e, r, rfl, rfl, he⟩ hn
        ((try with_reducible refine mkQI ?_); (repeat ((first | (with_reducible refine mkQU ?_) | simp only [brGen]); try simp (maxSteps := 2000000) only [↓ S2, S2, vIte, ↓reduceIte, Int.reduceNe, Nat.reduceEqDiff, reduceCtorEq, Nat.reduceLeDiff, Nat.reduceAdd, Nat.reduceLT, ])); (try simp +contextual (disch := omega) only [Z2, ]); (repeat' (first | (with_reducible intro h) | (with_reducible refine And.intro (by omega) ?_) | (with_reducible refine exP (by omega) ?_) | (with_reducible apply And.intro))))
        exact ⟨e, r, rfl, rfl, he⟩
      cases b with
      | true => exact h
      | false =>
        have hs : sees ts i wIf = false := hs.resolve_left (fun h => (by cases h))
        rw [frm_f, rE_eq hi]
        unfold exprP
        rw [if_neg (by rw [hs]; decide)]
        exact h
    · cases b with
      | true => exact absurd (.inl rfl) hs
      | false =>
        have hs : sees ts i wIf = true := by
          cases h : sees ts i wIf with
          | true => rfl
          | false => exact absurd (.inr h) hs
        exact Tryz.sexprI hK i hi hs hE rp H hr
  intro d
  induction d with
  | zero => exact fun i hd hi => key i hi fun j h1 h2 => (by omega)
  | succ d ih => exact fun i hd hi => key i hi fun j h1 h2 => ih j (by omega) h2
theorem o38 {ts : List Go.Gh.Tok} {nE : Int} (hK : OkR ts nE) (i : Nat) (hi : i ≤ ts.length) (b : Bool) (rp : Nat) (H : GH) (hr : hget H rp = some (4, [SpG ts nE i b])) :
    GCalls Tryz.prog 38 [.ptr rp 4 0 0] H (EP (SpG ts nE) (frm b (rE ts) i) rp H) := (Tryz.sbothS hK _ i (Nat.le_refl _) hi).1 b rp H hr
end Go.Proofs.YtkmedfejmndmjaaGreatDoor

