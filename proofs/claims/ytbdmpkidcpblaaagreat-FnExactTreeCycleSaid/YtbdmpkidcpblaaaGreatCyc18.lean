/- The law FnExactTreeCycle returns true whatever the input, and the input reads behind the call as before. No condition. -/
import Derived.Test.YtbdmpkidcpblaaaGreatCyc17
namespace Go.Proofs.YtbdmpkidcpblaaaGreat
open Go.Gh
set_option maxRecDepth 20000
set_option linter.unusedSimpArgs false
set_option linter.unusedVariables false
theorem o135 (l : List Int) (f : Nat) (cs : List GV) (p : Int → Bool) (H : GH) (hp : ∀ k ∈ l, GCalls Tryz.prog f (I k :: cs) H (fun v H' => v = B (p k) ∧ H' = H)) :
    GCalls Tryz.prog 135 [IS l, .clo f cs] H (fun v H' => v = I (ixOf p l) ∧ H' = H) := by
  refine GCalls.lenA fun hlen => ?_
  have hlen := hlen.1.1
  simp only [List.length_map, maxL] at hlen
  refine gstart mxd i135 rfl (by simp) ?_; simp (maxSteps := 2000000) only [↓ S2, S2, vIte, ↓reduceIte, Int.reduceNe, Nat.reduceEqDiff, reduceCtorEq, Nat.reduceLeDiff, Nat.reduceAdd, Nat.reduceLT]
  ((try with_reducible refine mkQI ?_); (repeat ((first | (with_reducible refine mkQU ?_) | simp only [brGen]); try simp (maxSteps := 4000000) +contextual only [↓ S2, S2, vIte, ↓reduceIte, Int.reduceNe, Nat.reduceEqDiff, reduceCtorEq, Nat.reduceLeDiff, Nat.reduceAdd, Nat.reduceLT, hget_c, hset_c, hdel_c, neN, neA_cons, neA_nil, ])); (try simp +contextual (disch := omega) only [Z2, ]); (repeat' (first | (with_reducible intro h) | (with_reducible refine And.intro (by omega) ?_) | (with_reducible refine exP (by omega) ?_) | (with_reducible apply And.intro))))
  refine wloop mxd (ι := { i : Nat // i ≤ l.length ∧ ∀ y ∈ l.take i, p y = false }) (fun i => [(0, IS l), (1, .clo f cs), (7, I l.length), (8, I i.1)]) (fun _ => H) (fun i => l.length - i.1) ⟨0, by simp⟩ (by simp [E2]) rfl ?_
  rintro ⟨i, hi, hn⟩
  rcases Nat.lt_or_ge i l.length with hlt | hge
  · ((try with_reducible refine mkQI ?_); (repeat ((first | (with_reducible refine mkQU ?_) | simp only [brGen]); try simp (maxSteps := 4000000) +contextual only [↓ S2, S2, vIte, ↓reduceIte, Int.reduceNe, Nat.reduceEqDiff, reduceCtorEq, Nat.reduceLeDiff, Nat.reduceAdd, Nat.reduceLT, hget_c, hset_c, hdel_c, neN, neA_cons, neA_nil, ])); (try simp +contextual (disch := omega) only [Z2, ]); (repeat' (first | (with_reducible intro h) | (with_reducible refine And.intro (by omega) ?_) | (with_reducible refine exP (by omega) ?_) | (with_reducible apply And.intro))))
    all_goals try (exfalso; omega)
    refine callS.of (hp l[i] (List.getElem_mem hlt)) ?_
    rintro v H' ⟨rfl, rfl⟩ -
    by_cases hb : p l[i] = true
    · have e := ixOf_hit hlt hb hn
      rw [e]
      ((try with_reducible refine mkQI ?_); (repeat ((first | (with_reducible refine mkQU ?_) | simp only [brGen]); try simp (maxSteps := 4000000) +contextual only [↓ S2, S2, vIte, ↓reduceIte, Int.reduceNe, Nat.reduceEqDiff, reduceCtorEq, Nat.reduceLeDiff, Nat.reduceAdd, Nat.reduceLT, hget_c, hset_c, hdel_c, neN, neA_cons, neA_nil, hb])); (try simp +contextual (disch := omega) only [Z2, hb]); (repeat' (first | (with_reducible intro h) | (with_reducible refine And.intro (by omega) ?_) | (with_reducible refine exP (by omega) ?_) | (with_reducible apply And.intro))))
    · have hb' : p l[i] = false := by simpa using hb
      ((try with_reducible refine mkQI ?_); (repeat ((first | (with_reducible refine mkQU ?_) | simp only [brGen]); try simp (maxSteps := 4000000) +contextual only [↓ S2, S2, vIte, ↓reduceIte, Int.reduceNe, Nat.reduceEqDiff, reduceCtorEq, Nat.reduceLeDiff, Nat.reduceAdd, Nat.reduceLT, hget_c, hset_c, hdel_c, neN, neA_cons, neA_nil, hb'])); (try simp +contextual (disch := omega) only [Z2, hb']); (repeat' (first | (with_reducible intro h) | (with_reducible refine And.intro (by omega) ?_) | (with_reducible refine exP (by omega) ?_) | (with_reducible apply And.intro))))
      exact nx ⟨i + 1, by omega, take_step hlt hb' hn⟩ (by simp; omega) (by simp [E2]) rfl
  · obtain rfl : i = l.length := by omega
    rw [List.take_length] at hn
    rw [ixOf_none hn]
    ((try with_reducible refine mkQI ?_); (repeat ((first | (with_reducible refine mkQU ?_) | simp only [brGen]); try simp (maxSteps := 4000000) +contextual only [↓ S2, S2, vIte, ↓reduceIte, Int.reduceNe, Nat.reduceEqDiff, reduceCtorEq, Nat.reduceLeDiff, Nat.reduceAdd, Nat.reduceLT, hget_c, hset_c, hdel_c, neN, neA_cons, neA_nil, ])); (try simp +contextual (disch := omega) only [Z2, ]); (repeat' (first | (with_reducible intro h) | (with_reducible refine And.intro (by omega) ?_) | (with_reducible refine exP (by omega) ?_) | (with_reducible apply And.intro))))
    all_goals first | (exfalso; omega) | skip
theorem w135 (l : List Int) (f : Nat) (cs : List GV) (p : Int → Bool) (hp : ∀ k ∈ l, Pure Tryz.prog f (I k :: cs) (· = B (p k))) :
    Pure Tryz.prog 135 [IS l, .clo f cs] (· = I (ixOf p l)) :=
  (o135 l f cs p [] fun k hk => (hp k hk).frame []).mono fun v H' h => h.1
set_option maxHeartbeats 2000000 in
theorem o70 (L : List Int) (f : Nat) (cs : List GV) (p : Int → Bool) (r n : Nat) (T : GH) (hL : L.length = n) (hb : n ≤ 4194304) (hcs : ∀ H', BorL H' cs cs) (hp : ∀ k ∈ L, Pure Tryz.prog f (I k :: cs) (· = B (p k))) :
    GCalls Tryz.prog 70 [.own r 1 0 n, .clo f cs] ((r, 1, L.map I) :: T) (fun v H' => v = .own r 1 0 (L.filter fun k => !p k).length ∧ H' = (r, 1, (L.filter fun k => !p k).map I) :: T) := by
  subst hL
  have hix := w135 L f cs p hp
  refine gstart mxd i70 rfl (by simp) ?_; simp (maxSteps := 2000000) only [↓ S2, S2, vIte, ↓reduceIte, Int.reduceNe, Nat.reduceEqDiff, reduceCtorEq, Nat.reduceLeDiff, Nat.reduceAdd, Nat.reduceLT]
  ((try with_reducible refine mkQI ?_); (repeat ((first | (with_reducible refine mkQU ?_) | simp only [brGen]); try simp (maxSteps := 4000000) +contextual only [↓ S2, S2, vIte, ↓reduceIte, Int.reduceNe, Nat.reduceEqDiff, reduceCtorEq, Nat.reduceLeDiff, Nat.reduceAdd, Nat.reduceLT, hget_c, hset_c, hdel_c, neN, neA_cons, neA_nil, ])); (try simp +contextual (disch := omega) only [Z2, ]); (repeat' (first | (with_reducible intro h) | (with_reducible refine And.intro (by omega) ?_) | (with_reducible refine exP (by omega) ?_) | (with_reducible apply And.intro))))
  refine callS.borA hix (.cons (bor_IS hget_new rfl) (.cons (Bor.clo (hcs _)) .nil)) rfl ?_
  rcases ixOf_cases p L with hno | hyes
  · have hf := ixOf_no hno
    rw [filter_all hf]
    simp only [hno]
    ((try with_reducible refine mkQI ?_); (repeat ((first | (with_reducible refine mkQU ?_) | simp only [brGen]); try simp (maxSteps := 4000000) +contextual only [↓ S2, S2, vIte, ↓reduceIte, Int.reduceNe, Nat.reduceEqDiff, reduceCtorEq, Nat.reduceLeDiff, Nat.reduceAdd, Nat.reduceLT, hget_c, hset_c, hdel_c, neN, neA_cons, neA_nil, ])); (try simp +contextual (disch := omega) only [Z2, ]); (repeat' (first | (with_reducible intro h) | (with_reducible refine And.intro (by omega) ?_) | (with_reducible refine exP (by omega) ?_) | (with_reducible apply And.intro))))
  · obtain ⟨i, hi⟩ : ∃ i : Nat, ixOf p L = i := ⟨(ixOf p L).toNat, by omega⟩
    obtain ⟨h1, h2⟩ := dlI_start hi
    have hil : i < L.length := by omega
    have hne : ¬ ((i : Int) = -1) := by omega
    rw [hi]
    ((try with_reducible refine mkQI ?_); (repeat ((first | (with_reducible refine mkQU ?_) | simp only [brGen]); try simp (maxSteps := 4000000) +contextual only [↓ S2, S2, vIte, ↓reduceIte, Int.reduceNe, Nat.reduceEqDiff, reduceCtorEq, Nat.reduceLeDiff, Nat.reduceAdd, Nat.reduceLT, hget_c, hset_c, hdel_c, neN, neA_cons, neA_nil, hne])); (try simp +contextual (disch := omega) only [Z2, hne]); (repeat' (first | (with_reducible intro h) | (with_reducible refine And.intro (by omega) ?_) | (with_reducible refine exP (by omega) ?_) | (with_reducible apply And.intro))))
    all_goals try (exfalso; omega)
    refine wloop mxd (ι := { y : Nat × List Int // dlI L p y.1 y.2 }) (fun y => [(0, .own r 1 0 L.length), (1, .clo f cs), (5, I ((L.take y.1.1).filter fun k => !p k).length), (6, I y.1.1)]) (fun y => (r, 1, y.1.2.map I) :: T) (fun y => L.length - y.1.1) ⟨(i + 1, L), h1⟩ (by simp only [h2]; simp [E2]) rfl ?_
    rintro ⟨⟨j, X⟩, hI⟩
    obtain ⟨hj1, hx1, hx2, hx3, hx4⟩ := id hI
    dsimp only at hI hj1 hx1 hx2 hx3 hx4 ⊢
    rcases Nat.lt_or_ge j L.length with hlt | hge
    · have hg := dlI_get hI hlt (by omega)
      ((try with_reducible refine mkQI ?_); (repeat ((first | (with_reducible refine mkQU ?_) | simp only [brGen]); try simp (maxSteps := 4000000) +contextual only [↓ S2, S2, vIte, ↓reduceIte, Int.reduceNe, Nat.reduceEqDiff, reduceCtorEq, Nat.reduceLeDiff, Nat.reduceAdd, Nat.reduceLT, hget_c, hset_c, hdel_c, neN, neA_cons, neA_nil, List.length_map, hx1, hg])); (try simp +contextual (disch := omega) only [Z2, List.length_map, hx1, hg]); (repeat' (first | (with_reducible intro h) | (with_reducible refine And.intro (by omega) ?_) | (with_reducible refine exP (by omega) ?_) | (with_reducible apply And.intro))))
      all_goals try (exfalso; omega)
      refine callS.eq (hp L[j] (List.getElem_mem hlt)) ?_
      by_cases hb2 : p L[j] = true
      · obtain ⟨b1, b2⟩ := dlI_drop hI hlt hb2
        ((try with_reducible refine mkQI ?_); (repeat ((first | (with_reducible refine mkQU ?_) | simp only [brGen]); try simp (maxSteps := 4000000) +contextual only [↓ S2, S2, vIte, ↓reduceIte, Int.reduceNe, Nat.reduceEqDiff, reduceCtorEq, Nat.reduceLeDiff, Nat.reduceAdd, Nat.reduceLT, hget_c, hset_c, hdel_c, neN, neA_cons, neA_nil, hb2])); (try simp +contextual (disch := omega) only [Z2, hb2]); (repeat' (first | (with_reducible intro h) | (with_reducible refine And.intro (by omega) ?_) | (with_reducible refine exP (by omega) ?_) | (with_reducible apply And.intro))))
        exact nx ⟨(j + 1, X), b1⟩ (by simp; omega) (by simp only [b2]; simp [E2]) rfl
      · have hb3 : p L[j] = false := by simpa using hb2
        obtain ⟨b1, b2⟩ := dlI_keep hI hlt hb3
        ((try with_reducible refine mkQI ?_); (repeat ((first | (with_reducible refine mkQU ?_) | simp only [brGen]); try simp (maxSteps := 4000000) +contextual only [↓ S2, S2, vIte, ↓reduceIte, Int.reduceNe, Nat.reduceEqDiff, reduceCtorEq, Nat.reduceLeDiff, Nat.reduceAdd, Nat.reduceLT, hget_c, hset_c, hdel_c, neN, neA_cons, neA_nil, hb3, List.length_map, hx1])); (try simp +contextual (disch := omega) only [Z2, hb3, List.length_map, hx1]); (repeat' (first | (with_reducible intro h) | (with_reducible refine And.intro (by omega) ?_) | (with_reducible refine exP (by omega) ?_) | (with_reducible apply And.intro))))
        all_goals try (exfalso; omega)
        refine nx ⟨(j + 1, _), b1⟩ (by simp; omega) (by simp only [b2]; simp [E2]) ?_
        rw [List.map_set]
    · have hje : j = L.length := by omega
      have hle := List.length_filter_le (fun k => !p k) L
      rw [hje, List.take_length] at hx3
      simp only [hje, List.take_length]
      ((try with_reducible refine mkQI ?_); (repeat ((first | (with_reducible refine mkQU ?_) | simp only [brGen]); try simp (maxSteps := 4000000) +contextual only [↓ S2, S2, vIte, ↓reduceIte, Int.reduceNe, Nat.reduceEqDiff, reduceCtorEq, Nat.reduceLeDiff, Nat.reduceAdd, Nat.reduceLT, hget_c, hset_c, hdel_c, neN, neA_cons, neA_nil, List.length_map, hx1])); (try simp +contextual (disch := omega) only [Z2, List.length_map, hx1]); (repeat' (first | (with_reducible intro h) | (with_reducible refine And.intro (by omega) ?_) | (with_reducible refine exP (by omega) ?_) | (with_reducible apply And.intro))))
      all_goals first | omega | (simp; done) | (rw [← List.map_take, hx3])
theorem w72 (T : List (List Int)) (k : Int) (hT : T.length ≤ 16777216) : Pure Tryz.prog 72 [I k, .rop 1 (TbS T)] (· = B (!decide (0 ≤ k ∧ k ≤ (T.length : Int) - 1))) := by
  refine gstart mxd i72 rfl (by simp) ?_; simp (maxSteps := 2000000) only [↓ S2, S2, vIte, ↓reduceIte, Int.reduceNe, Nat.reduceEqDiff, reduceCtorEq, Nat.reduceLeDiff, Nat.reduceAdd, Nat.reduceLT]
  ((try with_reducible refine mkQI ?_); (repeat ((first | (with_reducible refine mkQU ?_) | simp only [brGen]); try simp (maxSteps := 4000000) +contextual only [↓ S2, S2, vIte, ↓reduceIte, Int.reduceNe, Nat.reduceEqDiff, reduceCtorEq, Nat.reduceLeDiff, Nat.reduceAdd, Nat.reduceLT, hget_c, hset_c, hdel_c, neN, neA_cons, neA_nil, ])); (try simp +contextual (disch := omega) only [Z2, ]); (repeat' (first | (with_reducible intro h) | (with_reducible refine And.intro (by omega) ?_) | (with_reducible refine exP (by omega) ?_) | (with_reducible apply And.intro))))
  all_goals try (exfalso; omega)
  refine callS.eq (w73 _ _ _) ?_
  ((try with_reducible refine mkQI ?_); (repeat ((first | (with_reducible refine mkQU ?_) | simp only [brGen]); try simp (maxSteps := 4000000) +contextual only [↓ S2, S2, vIte, ↓reduceIte, Int.reduceNe, Nat.reduceEqDiff, reduceCtorEq, Nat.reduceLeDiff, Nat.reduceAdd, Nat.reduceLT, hget_c, hset_c, hdel_c, neN, neA_cons, neA_nil, ])); (try simp +contextual (disch := omega) only [Z2, ]); (repeat' (first | (with_reducible intro h) | (with_reducible refine And.intro (by omega) ?_) | (with_reducible refine exP (by omega) ?_) | (with_reducible apply And.intro))))
theorem o71 (xs : List Int) (hx : xs.length ≤ 4194304) (H : GH) : GCalls Tryz.prog 71 [IS xs] H (fun g H' => ∃ H1, (∃ r, g = .own r 1 0 xs.length ∧ H1 = [(r, 1, xs.map I)]) ∧ H' = H1 ++ H) := by
  have h0 : GCalls Tryz.prog 71 [IS xs] H (fun g H' => (xs = [] ∧ g = .val (.slice none 0 0) ∧ H' = H) ∨ ∃ r, g = .own r 1 0 xs.length ∧ H' = (r, 1, xs.map I) :: H) := by
    refine gstart mxd i71 rfl (by simp) ?_; simp (maxSteps := 2000000) only [↓ S2, S2, vIte, ↓reduceIte, Int.reduceNe, Nat.reduceEqDiff, reduceCtorEq, Nat.reduceLeDiff, Nat.reduceAdd, Nat.reduceLT]
    ((try with_reducible refine mkQI ?_); (repeat ((first | (with_reducible refine mkQU ?_) | simp only [brGen]); try simp (maxSteps := 2000000) only [↓ S2, S2, vIte, ↓reduceIte, Int.reduceNe, Nat.reduceEqDiff, reduceCtorEq, Nat.reduceLeDiff, Nat.reduceAdd, Nat.reduceLT])); (try simp +contextual (disch := omega) only [Z2]); (repeat' (first | (with_reducible intro h) | (with_reducible refine And.intro (by omega) ?_) | (with_reducible refine exP (by omega) ?_) | (with_reducible apply And.intro))))
    by_cases hxs : xs = []
    · subst hxs
      simp only [List.map_nil, List.isEmpty_nil, if_true]
      exact ⟨.inl trivial, fun r hr => ⟨by simp, by simp, fun r hr => .inr ⟨r, rfl, rfl⟩⟩⟩
    · rw [if_neg (by simpa using hxs)]
      exact fun r hr => ⟨by omega, by omega, fun r hr => .inr ⟨r, rfl, rfl⟩⟩
  refine h0.fr ?_
  rintro g H' (⟨rfl, rfl, rfl⟩ | ⟨r, rfl, rfl⟩)
  · exact ⟨_, _, FR.trans (FR.addv (r := vname H') (sz := 1) (vname_odd H') (vname_new H')) (FR.sub (Bor.virt (r := vname H') (sz := 1))), _, ⟨vname H', rfl, rfl⟩, rfl⟩
  · exact ⟨_, _, FR.refl _ _, _, ⟨r, rfl, rfl⟩, rfl⟩
set_option maxHeartbeats 2000000 in
theorem o35 (T : List (List Int)) (hT : okT T) (H : GH) : GCalls Tryz.prog 35 [TbS T] H (fun v H' => ∃ r, v = .own r 1 0 T.length ∧ H' = (r, 1, (fltT T).map ItO) :: H) := by
  have hTl := hT.1
  have hF : fltT T = T.map (fltR T.length) := rfl
  rw [hF]
  refine gstart mxd i35 rfl (by simp) ?_; simp (maxSteps := 2000000) only [↓ S2, S2, vIte, ↓reduceIte, Int.reduceNe, Nat.reduceEqDiff, reduceCtorEq, Nat.reduceLeDiff, Nat.reduceAdd, Nat.reduceLT]
  ((try with_reducible refine mkQI ?_); (repeat ((first | (with_reducible refine mkQU ?_) | simp only [brGen]); try simp (maxSteps := 4000000) +contextual only [↓ S2, S2, vIte, ↓reduceIte, Int.reduceNe, Nat.reduceEqDiff, reduceCtorEq, Nat.reduceLeDiff, Nat.reduceAdd, Nat.reduceLT, hget_c, hset_c, hdel_c, neN, neA_cons, neA_nil, ])); (try simp +contextual (disch := omega) only [Z2, ]); (repeat' (first | (with_reducible intro h) | (with_reducible refine And.intro (by omega) ?_) | (with_reducible refine exP (by omega) ?_) | (with_reducible apply And.intro))))
  rename_i r0
  refine wloopN mxd (ι := { y : Nat × Nat // y.2 ≤ T.length }) (fun y => [(1, .rop 1 (TbS T)), (3, .own y.1.1 1 0 y.1.2), (7, TbS T), (8, I T.length), (9, I y.1.2)]) (fun y => (y.1.1, 1, ((T.take y.1.2).map (fltR T.length)).map ItO) :: H) (fun y => T.length - y.1.2) ⟨(r0, 0), by simp⟩ (by simp [E2]) (by simp) ?_
  rintro ⟨⟨q, i⟩, hi⟩ hn
  dsimp only at hi hn ⊢
  replace hn := neH_of hn
  (replace hn := hn; simp only [neH_cons, neH_nil, neA_cons, neA_nil, and_true, true_and] at hn)
  rcases Nat.lt_or_ge i T.length with hlt | hge
  · have hrw := hT.2 T[i] (List.getElem_mem hlt)
    ((try with_reducible refine mkQI ?_); (repeat ((first | (with_reducible refine mkQU ?_) | simp only [brGen]); try simp (maxSteps := 4000000) +contextual only [↓ S2, S2, vIte, ↓reduceIte, Int.reduceNe, Nat.reduceEqDiff, reduceCtorEq, Nat.reduceLeDiff, Nat.reduceAdd, Nat.reduceLT, hget_c, hset_c, hdel_c, neN, neA_cons, neA_nil, hn])); (try simp +contextual (disch := omega) only [Z2, hn]); (repeat' (first | (with_reducible intro h) | (with_reducible refine And.intro (by omega) ?_) | (with_reducible refine exP (by omega) ?_) | (with_reducible apply And.intro))))
    all_goals try (exfalso; omega)
    refine callS.of (o71 T[i] (by omega) _) ?_
    rintro v H' ⟨H1, ⟨rc, rfl, rfl⟩, rfl⟩ hn2
    simp only [List.cons_append, List.nil_append] at hn2 ⊢
    replace hn2 := neH_of hn2
    (replace hn2 := hn2; simp only [neH_cons, neH_nil, neA_cons, neA_nil, and_true, true_and] at hn2)
    ((try with_reducible refine mkQI ?_); (repeat ((first | (with_reducible refine mkQU ?_) | simp only [brGen]); try simp (maxSteps := 4000000) +contextual only [↓ S2, S2, vIte, ↓reduceIte, Int.reduceNe, Nat.reduceEqDiff, reduceCtorEq, Nat.reduceLeDiff, Nat.reduceAdd, Nat.reduceLT, hget_c, hset_c, hdel_c, neN, neA_cons, neA_nil, hn2])); (try simp +contextual (disch := omega) only [Z2, hn2]); (repeat' (first | (with_reducible intro h) | (with_reducible refine And.intro (by omega) ?_) | (with_reducible refine exP (by omega) ?_) | (with_reducible apply And.intro))))
    refine callS.of (o70 T[i] 72 [.rop 1 (TbS T)] (fun k => !decide (0 ≤ k ∧ k ≤ (T.length : Int) - 1)) rc _ _ rfl (by omega) (fun _ => .cons .refl .nil) (fun k _ => w72 T k hTl)) ?_
    rintro v H' ⟨rfl, rfl⟩ -
    rw [fltR_eq]
    have hfl : (fltR T.length T[i]).length ≤ T[i].length := List.length_filter_le _ _
    ((try with_reducible refine mkQI ?_); (repeat ((first | (with_reducible refine mkQU ?_) | simp only [brGen]); try simp (maxSteps := 4000000) +contextual only [↓ S2, S2, vIte, ↓reduceIte, Int.reduceNe, Nat.reduceEqDiff, reduceCtorEq, Nat.reduceLeDiff, Nat.reduceAdd, Nat.reduceLT, hget_c, hset_c, hdel_c, neN, neA_cons, neA_nil, hn2, List.length_append, List.length_singleton, List.length_map, List.length_take, maxLv])); (try simp +contextual (disch := omega) only [Z2, hn2, List.length_append, List.length_singleton, List.length_map, List.length_take, maxLv]); (repeat' (first | (with_reducible intro h) | (with_reducible refine And.intro (by omega) ?_) | (with_reducible refine exP (by omega) ?_) | (with_reducible apply And.intro))))
    all_goals try (exfalso; omega)
    rename_i r5 _ r6
    refine nxF ⟨(r6, i + 1), by omega⟩ (by simp; omega) (FE.trans (FE.perm (H := [_, _, _]) (L := [(r6, _), (rc, _)]) (by repeat' (first | exact trivial | (refine And.intro (by simp only [hget_c, *, if_true, if_false]; try rfl) (And.intro (by simp [names_cons, names_nil, *]) ?_))))) (FE.closeE2 (by simp [*]) (by simp))) (by simp [E2]) ?_
    rw [takeApp2 ItO (fltR T.length) T i hlt]
    rfl
  · obtain rfl : i = T.length := by omega
    ((try with_reducible refine mkQI ?_); (repeat ((first | (with_reducible refine mkQU ?_) | simp only [brGen]); try simp (maxSteps := 4000000) +contextual only [↓ S2, S2, vIte, ↓reduceIte, Int.reduceNe, Nat.reduceEqDiff, reduceCtorEq, Nat.reduceLeDiff, Nat.reduceAdd, Nat.reduceLT, hget_c, hset_c, hdel_c, neN, neA_cons, neA_nil, hn])); (try simp +contextual (disch := omega) only [Z2, hn]); (repeat' (first | (with_reducible intro h) | (with_reducible refine And.intro (by omega) ?_) | (with_reducible refine exP (by omega) ?_) | (with_reducible apply And.intro))))
    all_goals try (exfalso; omega)
    rw [List.take_length]
    exact ⟨q, rfl, rfl⟩
theorem q35 (T : List (List Int)) (hT : okT T) : Pure Tryz.prog 35 [TbS T] (· = TbS (fltT T)) :=
  Pure.bor ((o35 T hT []).mono fun v H' ⟨r, h1, h2⟩ => by
    subst h1; subst h2
    exact bor_Tb hget_new (by simp [fltT]))
end Go.Proofs.YtbdmpkidcpblaaaGreat

