/- The law FnSubtrees returns true whatever the input, and the input reads behind the call as before. No condition. -/
import Derived.Test.YtfpjmfjhdaccnaaFsu2
set_option linter.unusedSimpArgs false
set_option linter.unusedVariables false
set_option maxHeartbeats 40000000
namespace Go.Proofs.Ytfpjmfjhdaccnaa
open Go.Gh
open Nat (reduceEqDiff reduceLeDiff reduceAdd reduceLT)
open Int (reduceNe)
set_option maxRecDepth 20000
set_option linter.unusedSimpArgs false
set_option linter.unusedVariables false
theorem w71 (g : Gram) (t : List Nod) (hg : smGr g) (hl : t.length ≤ 1048576) (hk : ∀ x ∈ t, x.kids.length ≤ 1048576) : ∀ (f i : Nat) (p q : Int) (s : ByteArray), t.length ≤ i + f → Pu 71 [Gr g, Tr t, I i, I p, I q, T s] (· = I (walkE g t f i p q s)) := by
 intro f
 induction f with
 | zero =>
  intro i p q s hf
  refine gstart mxd i71 rfl (by simp) ?_; simp (maxSteps := 9^7) only [↓ S2, S2, vIte, ↓reduceIte, reduceNe, reduceEqDiff, reduceCtorEq, reduceLeDiff, reduceAdd, reduceLT]
  ((try refine qI ?_); (repeat ((first | with_reducible refine qU ?_ | simp only [brGen]); try simp (maxSteps := 9^7) only [↓ S2, S2, vIte, ↓reduceIte, reduceNe, reduceEqDiff, reduceCtorEq, reduceLeDiff, reduceAdd, reduceLT])); (try simp +contextual (disch := omega) only [Z2]); (with_reducible repeat' (first | intro h | refine And.intro (by omega) ?_ | refine exP (by omega) ?_ | apply And.intro)))
  all_goals first | rfl | (exfalso; omega)
 | succ f ih =>
  intro i p q s hf
  refine gstart mxd i71 rfl (by simp) ?_; simp (maxSteps := 9^7) only [↓ S2, S2, vIte, ↓reduceIte, reduceNe, reduceEqDiff, reduceCtorEq, reduceLeDiff, reduceAdd, reduceLT]
  by_cases hi : i < t.length
  rotate_left
  ·rw [walkE_out (by omega)]
   ((try refine qI ?_); (repeat ((first | with_reducible refine qU ?_ | simp only [brGen]); try simp (maxSteps := 9^7) only [↓ S2, S2, vIte, ↓reduceIte, reduceNe, reduceEqDiff, reduceCtorEq, reduceLeDiff, reduceAdd, reduceLT])); (try simp +contextual (disch := omega) only [Z2]); (with_reducible repeat' (first | intro h | refine And.intro (by omega) ?_ | refine exP (by omega) ?_ | apply And.intro)))
   all_goals first | rfl | (exfalso; omega)
  have hw : walkE g t (f + 1) i p q s = if fitV g t[i] p q s then kidsW (walkE g t f) i t[i].kids (fRul g.rules t[i].rule).right 0 (i + 1) else -1 := by simp only [walkE, if_pos hi, getD_lt hi]
  have hkk := hk _ (gM hi)
  have hr := smRu_f hg t[i].rule
  have hrr := hr.1
  rw [hw]
  by_cases hv : fitV g t[i] p q s = true
  ·rw [if_pos hv]
   obtain ⟨h1, h2, h3, h4, h5, h6, h7⟩ := fitV_iff.1 hv
   subst h2 h3 h4
   clear hw hv
   have hR : ∃ R, fRul g.rules t[i].rule = R := ⟨_, rfl⟩
   obtain ⟨R, hR⟩ := hR
   rw [hR] at hr hrr h5 h7 ⊢
   have main : ∀ (Q : Exit → Env → GH → Prop), True := fun _ => trivial
   rcases h7 with h7 | h7
   ·(repeat' (first | (with_reducible refine callS.eq (w46 _ _ hg) ?_) | (with_reducible refine callS.eq (w91 _ _) ?_) | simp (maxSteps := 9^7) only [↓ S2, S2, vIte, ↓reduceIte, reduceNe, reduceEqDiff, reduceCtorEq, reduceLeDiff, reduceAdd, reduceLT, h1, h5, okV1, eq_true h6, h7, hR] | simp only [brGen] | simp +contextual (disch := omega) only [Z2] | with_reducible first | intro h | refine And.intro (by omega) ?_ | refine exP (by omega) ?_ | apply And.intro))
    all_goals try exact oF
    have hVV : ∃ V, kidsW (walkE g t f) i t[i].kids R.right 0 (i + 1) = V := ⟨_, rfl⟩
    obtain ⟨V, hVV⟩ := hVV
    rw [hVV]
    refine wloop mxd (ι := { x : Nat × Int // x.1 ≤ R.right.length ∧ (i : Int) < x.2 ∧ x.2 ≤ t.length ∧ kidsW (walkE g t f) i (t[i].kids.drop x.1) (R.right.drop x.1) x.1 x.2 = V }) (fun x => [(2, I i), (6, .rop 2 (Gr g)), (7, .rop 1 (Tr t)), (13, .rop 6 (Nd t[i])), (14, .rop 6 (Ru R)), (16, I x.1.2), (17, I x.1.1)]) (fun _ => []) (fun x => R.right.length - x.1.1) ⟨(0, i + 1), by simp, by simp; omega, by simp; omega, by simpa using hVV⟩ (by simp [E2, h7]) rfl ?_
    rintro ⟨⟨k, a⟩, hk1, ha1, ha2, hV⟩
    dsimp only at hk1 ha1 ha2 hV ⊢
    rcases nL k R.right.length with hlt | hge
    ·rw [kidsW_step (by omega) hlt] at hV
     by_cases hc : t[i].kids[k] = a
     ·rw [if_neg (by simpa using hc)] at hV
      obtain ⟨m, rfl⟩ : ∃ m : Nat, a = m := ⟨a.toNat, by omega⟩
      have hm := walkE_ge (g := g) (t := t) f m i ((k : Int) + 1) R.right[k]
      simp only [Int.toNat_natCast] at hV
      (repeat' (first | (with_reducible refine callS.eq (ih m _ _ _ (by omega)) ?_) | simp (maxSteps := 9^7) only [↓ S2, S2, vIte, ↓reduceIte, reduceNe, reduceEqDiff, reduceCtorEq, reduceLeDiff, reduceAdd, reduceLT, h5, hc] | simp only [brGen] | simp +contextual (disch := omega) only [Z2] | with_reducible first | intro h | refine And.intro (by omega) ?_ | refine exP (by omega) ?_ | apply And.intro))
      all_goals try exact oF
      ·rw [if_pos (by assumption)] at hV; rw [← hV]
      ·rw [if_neg (by assumption)] at hV
       exact nx ⟨(k + 1, walkE g t f m i ((k : Int) + 1) R.right[k]), by omega, by dsimp only; omega, by dsimp only; omega, hV⟩ (by simp; omega) (by simp [E2]) rfl
     ·rw [if_pos (by simpa using hc)] at hV
      (repeat' (first | (with_reducible refine callS.eq (ih _ _ _ _ (by omega)) ?_) | simp (maxSteps := 9^7) only [↓ S2, S2, vIte, ↓reduceIte, reduceNe, reduceEqDiff, reduceCtorEq, reduceLeDiff, reduceAdd, reduceLT, h5, hc] | simp only [brGen] | simp +contextual (disch := omega) only [Z2] | with_reducible first | intro h | refine And.intro (by omega) ?_ | refine exP (by omega) ?_ | apply And.intro))
      all_goals first | (rw [← hV]; done) | (exfalso; omega)
    ·rw [kidsW_end (by omega)] at hV
     ((try refine qI ?_); (repeat ((first | with_reducible refine qU ?_ | simp only [brGen]); try simp (maxSteps := 9^7) only [↓ S2, S2, vIte, ↓reduceIte, reduceNe, reduceEqDiff, reduceCtorEq, reduceLeDiff, reduceAdd, reduceLT])); (try simp +contextual (disch := omega) only [Z2]); (with_reducible repeat' (first | intro h | refine And.intro (by omega) ?_ | refine exP (by omega) ?_ | apply And.intro)))
     all_goals first | (rw [← hV]; done) | (exfalso; omega)
   ·(repeat' (first | (with_reducible refine callS.eq (w46 _ _ hg) ?_) | (with_reducible refine callS.eq (w91 _ _) ?_) | simp (maxSteps := 9^7) only [↓ S2, S2, vIte, ↓reduceIte, reduceNe, reduceEqDiff, reduceCtorEq, reduceLeDiff, reduceAdd, reduceLT, h1, h5, okV1, eq_true h6, h7.1, eq_true h7.2, hR] | simp only [brGen] | simp +contextual (disch := omega) only [Z2] | with_reducible first | intro h | refine And.intro (by omega) ?_ | refine exP (by omega) ?_ | apply And.intro))
    all_goals try exact oF
    have hVV : ∃ V, kidsW (walkE g t f) i t[i].kids R.right 0 (i + 1) = V := ⟨_, rfl⟩
    obtain ⟨V, hVV⟩ := hVV
    rw [hVV]
    refine wloop mxd (ι := { x : Nat × Int // x.1 ≤ R.right.length ∧ (i : Int) < x.2 ∧ x.2 ≤ t.length ∧ kidsW (walkE g t f) i (t[i].kids.drop x.1) (R.right.drop x.1) x.1 x.2 = V }) (fun x => [(2, I i), (6, .rop 2 (Gr g)), (7, .rop 1 (Tr t)), (13, .rop 6 (Nd t[i])), (14, .rop 6 (Ru R)), (16, I x.1.2), (17, I x.1.1)]) (fun _ => []) (fun x => R.right.length - x.1.1) ⟨(0, i + 1), by simp, by simp; omega, by simp; omega, by simpa using hVV⟩ (by simp [E2, h7]) rfl ?_
    rintro ⟨⟨k, a⟩, hk1, ha1, ha2, hV⟩
    dsimp only at hk1 ha1 ha2 hV ⊢
    rcases nL k R.right.length with hlt | hge
    ·rw [kidsW_step (by omega) hlt] at hV
     by_cases hc : t[i].kids[k] = a
     ·rw [if_neg (by simpa using hc)] at hV
      obtain ⟨m, rfl⟩ : ∃ m : Nat, a = m := ⟨a.toNat, by omega⟩
      have hm := walkE_ge (g := g) (t := t) f m i ((k : Int) + 1) R.right[k]
      simp only [Int.toNat_natCast] at hV
      (repeat' (first | (with_reducible refine callS.eq (ih m _ _ _ (by omega)) ?_) | simp (maxSteps := 9^7) only [↓ S2, S2, vIte, ↓reduceIte, reduceNe, reduceEqDiff, reduceCtorEq, reduceLeDiff, reduceAdd, reduceLT, h5, hc] | simp only [brGen] | simp +contextual (disch := omega) only [Z2] | with_reducible first | intro h | refine And.intro (by omega) ?_ | refine exP (by omega) ?_ | apply And.intro))
      all_goals try exact oF
      ·rw [if_pos (by assumption)] at hV; rw [← hV]
      ·rw [if_neg (by assumption)] at hV
       exact nx ⟨(k + 1, walkE g t f m i ((k : Int) + 1) R.right[k]), by omega, by dsimp only; omega, by dsimp only; omega, hV⟩ (by simp; omega) (by simp [E2]) rfl
     ·rw [if_pos (by simpa using hc)] at hV
      (repeat' (first | (with_reducible refine callS.eq (ih _ _ _ _ (by omega)) ?_) | simp (maxSteps := 9^7) only [↓ S2, S2, vIte, ↓reduceIte, reduceNe, reduceEqDiff, reduceCtorEq, reduceLeDiff, reduceAdd, reduceLT, h5, hc] | simp only [brGen] | simp +contextual (disch := omega) only [Z2] | with_reducible first | intro h | refine And.intro (by omega) ?_ | refine exP (by omega) ?_ | apply And.intro))
      all_goals first | (rw [← hV]; done) | (exfalso; omega)
    ·rw [kidsW_end (by omega)] at hV
     ((try refine qI ?_); (repeat ((first | with_reducible refine qU ?_ | simp only [brGen]); try simp (maxSteps := 9^7) only [↓ S2, S2, vIte, ↓reduceIte, reduceNe, reduceEqDiff, reduceCtorEq, reduceLeDiff, reduceAdd, reduceLT])); (try simp +contextual (disch := omega) only [Z2]); (with_reducible repeat' (first | intro h | refine And.intro (by omega) ?_ | refine exP (by omega) ?_ | apply And.intro)))
     all_goals first | (rw [← hV]; done) | (exfalso; omega)
  ·rw [if_neg hv]
   rw [fitV_iff] at hv
   (repeat' (first | (with_reducible refine callS.eq (w46 _ _ hg) ?_) | (with_reducible refine callS.eq (w91 _ _) ?_) | simp (maxSteps := 9^7) only [↓ S2, S2, vIte, ↓reduceIte, reduceNe, reduceEqDiff, reduceCtorEq, reduceLeDiff, reduceAdd, reduceLT] | simp only [brGen] | simp +contextual (disch := omega) only [Z2] | with_reducible first | intro h | refine And.intro (by omega) ?_ | refine exP (by omega) ?_ | apply And.intro))
   all_goals try rfl
   all_goals (exfalso; apply hv; simp_all only [okV1, decide_eq_true_eq, decide_eq_false_iff_not, true_and, and_true, or_true, true_or, not_true_eq_false, not_false_eq_true]; done)
theorem w90 (l : List Int) (x : Int) : Pu 90 [IS l, I x] (· = B (hasI l x)) := by
 refine GCalls.lenA fun hl => ?_
 have hlen := hl.1.1
 simp only [List.length_map, maxL] at hlen
 refine gstart mxd i90 rfl (by simp) ?_; simp (maxSteps := 9^7) only [↓ S2, S2, vIte, ↓reduceIte, reduceNe, reduceEqDiff, reduceCtorEq, reduceLeDiff, reduceAdd, reduceLT]
 refine wloop mxd (ι := { i : Nat // i ≤ l.length ∧ ∀ y ∈ l.take i, decide (y = x) = false }) (fun i => [(0, IS l), (1, I x), (5, I i.1)]) (fun _ => []) (fun i => l.length - i.1) ⟨0, by simp⟩ (by simp [E2]) rfl ?_
 rintro ⟨i, hi, hn⟩
 ((try refine qI ?_); (repeat ((first | with_reducible refine qU ?_ | simp only [brGen]); try simp (maxSteps := 9^7) only [↓ S2, S2, vIte, ↓reduceIte, reduceNe, reduceEqDiff, reduceCtorEq, reduceLeDiff, reduceAdd, reduceLT])); (try simp +contextual (disch := omega) only [Z2]); (with_reducible repeat' (first | intro h | refine And.intro (by omega) ?_ | refine exP (by omega) ?_ | apply And.intro)))
 ·rw [hasI_hit (by assumption) h]
 ·exact nx ⟨i + 1, by omega, take_step (by assumption) (by simpa using h) hn⟩ (by simp; omega) (by simp [E2]) rfl
 ·have : i = l.length := by omega
  subst this
  rw [tL (Nat.le_refl _)] at hn
  rw [hasI_none hn]
theorem w70 (t : List Nod) (hl : t.length ≤ 1048576) : Pu 70 [Tr t] (· = B (idsV t && decide (1 ≤ t.length ∧ t.length ≤ 16))) := by
 refine Pure.bor ?_
 refine gstart mxd i70 rfl (by simp) ?_; simp (maxSteps := 9^7) only [↓ S2, S2, vIte, ↓reduceIte, reduceNe, reduceEqDiff, reduceCtorEq, reduceLeDiff, reduceAdd, reduceLT]
 ((try refine qI ?_); (repeat ((first | with_reducible refine qU ?_ | simp only [brGen]); try simp (maxSteps := 9^7) only [↓ S2, S2, vIte, ↓reduceIte, reduceNe, reduceEqDiff, reduceCtorEq, reduceLeDiff, reduceAdd, reduceLT])); (try simp +contextual (disch := omega) only [Z2]); (with_reducible repeat' (first | intro h | refine And.intro (by omega) ?_ | refine exP (by omega) ?_ | apply And.intro)))
 rename_i r
 refine ploop mxd (ι := { x : Nat × Nat // x.2 ≤ t.length ∧ ∀ j, j < x.2 → gid t j = true }) (fun x => [(1, .rop 1 (Tr t)), (3, .own x.1.1 1 0 x.1.2), (4, I x.1.2)]) (fun x => [(x.1.1, 1, ((t.take x.1.2).map (·.id)).map I)]) (fun x => t.length - x.1.2) ⟨(r, 0), by simp⟩ (by simp [E2]) (by simp [subH, hget, names]) ?_
 rintro ⟨⟨r, i⟩, hi, hn⟩ -
 dsimp only at hi hn ⊢
 rcases nL i t.length with hlt | hge
 ·(repeat' (first | (with_reducible refine callS.eq (w45 _ _ _) ?_) | simp (maxSteps := 9^7) only [↓ S2, S2, vIte, ↓reduceIte, reduceNe, reduceEqDiff, reduceCtorEq, reduceLeDiff, reduceAdd, reduceLT] | simp only [brGen] | simp +contextual (disch := omega) only [Z2] | with_reducible first | intro h | refine And.intro (by omega) ?_ | refine exP (by omega) ?_ | apply And.intro))
  all_goals try exact oF
  ·refine callS.borA (w90 ((t.take i).map (·.id)) t[i].id) (.cons (bor_IS hget_new (by simp; omega)) (.cons .refl .nil)) rfl ?_
   ((try refine qI ?_); (repeat ((first | with_reducible refine qU ?_ | simp only [brGen]); try simp (maxSteps := 9^7) only [↓ S2, S2, vIte, ↓reduceIte, reduceNe, reduceEqDiff, reduceCtorEq, reduceLeDiff, reduceAdd, reduceLT])); (try simp +contextual (disch := omega) only [Z2]); (with_reducible repeat' (first | intro h | refine And.intro (by omega) ?_ | refine exP (by omega) ?_ | apply And.intro)))
   ·rw [hasI_map] at h
    rw [idsV_bad hlt (gid_f2 hlt h)]
    exact .refl
   ·rename_i q2
    have h2 := neH_of h
    (replace h2 := h2; simp only [VN] at h2)
    ((try refine qI ?_); (repeat ((first | with_reducible refine qU ?_ | simp only [brGen]); try simp (maxSteps := 9^7) only [↓ S2, S2, vIte, ↓reduceIte, reduceNe, reduceEqDiff, reduceCtorEq, reduceLeDiff, reduceAdd, reduceLT, hget_c, hset_c, hdel_c, h2, t_ldf])); (try simp +contextual (disch := omega) only [Z2, hget_c, hset_c, hdel_c, h2, t_ldf]); (with_reducible repeat' (first | intro h | refine And.intro (by omega) ?_ | refine exP (by omega) ?_ | apply And.intro)))
    ·simp; omega
    rename_i hh _ _ _ q3
    have h3 := neH_of h
    (replace h3 := h3; simp only [VN] at h3)
    rw [takeApp2 I (·.id) t i hlt]
    refine px ⟨(q3, i + 1), by omega, fun j hj => ?_⟩ (by simp; omega) (by simp [E2]) (by simp [subH, hget, names, h3])
    rcases nL j i with hji | hji
    ·exact hn j hji
    ·have : j = i := by omega
     subst this
     exact gid_t hlt (by assumption) (by rw [← hasI_map]; assumption)
  ·rw [idsV_bad hlt (gid_f1 hlt (by assumption))]
   exact .refl
 ·have : i = t.length := by omega
  subst this
  (repeat' (first | (with_reducible refine callS.eq (w45 _ _ _) ?_) | simp (maxSteps := 9^7) only [↓ S2, S2, vIte, ↓reduceIte, reduceNe, reduceEqDiff, reduceCtorEq, reduceLeDiff, reduceAdd, reduceLT] | simp only [brGen] | simp +contextual (disch := omega) only [Z2] | with_reducible first | intro h | refine And.intro (by omega) ?_ | refine exP (by omega) ?_ | apply And.intro))
  have e : B (decide (1 ≤ (t.length : Int) ∧ (t.length : Int) ≤ 16)) = B (idsV t && decide (1 ≤ t.length ∧ t.length ≤ 16)) := by rw [idsV_ok hn, Bool.true_and]; exact bEq (by omega)
  rw [← e]
  exact .refl
theorem w38 (g : Gram) (t : List Nod) (s : ByteArray) (hg : smGr g) (hl : t.length ≤ 1048576) (hk : ∀ x ∈ t, x.kids.length ≤ 1048576) : Pu 38 [Gr g, Tr t, T s] (· = B (treeOf g t s)) := by
 have hw := w71 g t hg hl hk t.length 0 (-1) 0 s (by omega)
 simp only [Int.natCast_zero] at hw
 refine gstart mxd i38 rfl (by simp) ?_; simp (maxSteps := 9^7) only [↓ S2, S2, vIte, ↓reduceIte, reduceNe, reduceEqDiff, reduceCtorEq, reduceLeDiff, reduceAdd, reduceLT]
 (repeat' (first | (with_reducible refine callS.eq (w70 t hl) ?_) | (with_reducible refine callS.eq (hw) ?_) | simp (maxSteps := 9^7) only [↓ S2, S2, vIte, ↓reduceIte, reduceNe, reduceEqDiff, reduceCtorEq, reduceLeDiff, reduceAdd, reduceLT] | simp only [brGen] | simp +contextual (disch := omega) only [Z2] | with_reducible first | intro h | refine And.intro (by omega) ?_ | refine exP (by omega) ?_ | apply And.intro))
 all_goals first | (simp_all [treeOf]; done) | (simp_all [treeOf]; intros; omega)
theorem w39 (g : Gram) (hg : smGr g) : Pu 39 [Gr g] (· = T (startS g)) := by
 have hl := hg.1
 refine gstart mxd i39 rfl (by simp) ?_; simp (maxSteps := 9^7) only [↓ S2, S2, vIte, ↓reduceIte, reduceNe, reduceEqDiff, reduceCtorEq, reduceLeDiff, reduceAdd, reduceLT]
 ((try refine qI ?_); (repeat ((first | with_reducible refine qU ?_ | simp only [brGen]); try simp (maxSteps := 9^7) only [↓ S2, S2, vIte, ↓reduceIte, reduceNe, reduceEqDiff, reduceCtorEq, reduceLeDiff, reduceAdd, reduceLT])); (try simp +contextual (disch := omega) only [Z2]); (with_reducible repeat' (first | intro h | refine And.intro (by omega) ?_ | refine exP (by omega) ?_ | apply And.intro)))
 ·simp only [startS]; rw [if_neg (by omega)]; rfl
 ·simp only [startS, Int.reduceToNat]; rw [if_pos (by omega), getD_lt (by omega)]
theorem w15 (g : Gram) (t : List Nod) (hg : smGr g) (hl : t.length ≤ 1048576) (hk : ∀ x ∈ t, x.kids.length ≤ 1048576) : Pu 15 [Gr g, Tr t] (· = B (treeOf g t (startS g))) := by
 refine gstart mxd i15 rfl (by simp) ?_; simp (maxSteps := 9^7) only [↓ S2, S2, vIte, ↓reduceIte, reduceNe, reduceEqDiff, reduceCtorEq, reduceLeDiff, reduceAdd, reduceLT]
 (repeat' (first | (with_reducible refine callS.eq (w39 g hg) ?_) | (with_reducible refine callS.eq (w38 g t _ hg hl hk) ?_) | simp (maxSteps := 9^7) only [↓ S2, S2, vIte, ↓reduceIte, reduceNe, reduceEqDiff, reduceCtorEq, reduceLeDiff, reduceAdd, reduceLT] | simp only [brGen] | simp +contextual (disch := omega) only [Z2] | with_reducible first | intro h | refine And.intro (by omega) ?_ | refine exP (by omega) ?_ | apply And.intro))
theorem w77 (xs ys : List Int) : Pu 77 [IS xs, IS ys] (· = B (decide (xs = ys))) := by
 refine GCalls.lenA fun hl => ?_
 have hl := hl.1.1
 simp only [List.length_map, maxL] at hl
 refine gstart mxd i77 rfl (by simp) ?_; simp (maxSteps := 9^7) only [↓ S2, S2, vIte, ↓reduceIte, reduceNe, reduceEqDiff, reduceCtorEq, reduceLeDiff, reduceAdd, reduceLT]
 ((try refine qI ?_); (repeat ((first | with_reducible refine qU ?_ | simp only [brGen]); try simp (maxSteps := 9^7) only [↓ S2, S2, vIte, ↓reduceIte, reduceNe, reduceEqDiff, reduceCtorEq, reduceLeDiff, reduceAdd, reduceLT])); (try simp +contextual (disch := omega) only [Z2]); (with_reducible repeat' (first | intro h | refine And.intro (by omega) ?_ | refine exP (by omega) ?_ | apply And.intro)))
 rotate_left
 ·simp; rintro rfl; exact h rfl
 refine wloop mxd (ι := { i : Nat // i ≤ xs.length ∧ xs.take i = ys.take i }) (fun i => [(0, IS xs), (1, IS ys), (5, I i.1)]) (fun _ => []) (fun i => xs.length - i.1) ⟨0, by simp⟩ (by simp [E2]) rfl ?_
 rintro ⟨i, hi, hp⟩
 ((try refine qI ?_); (repeat ((first | with_reducible refine qU ?_ | simp only [brGen]); try simp (maxSteps := 9^7) only [↓ S2, S2, vIte, ↓reduceIte, reduceNe, reduceEqDiff, reduceCtorEq, reduceLeDiff, reduceAdd, reduceLT])); (try simp +contextual (disch := omega) only [Z2]); (with_reducible repeat' (first | intro h | refine And.intro (by omega) ?_ | refine exP (by omega) ?_ | apply And.intro)))
 ·exact nx ⟨i + 1, by omega, take_eq_step hp (by omega) (by omega) h⟩ (by simp; omega) (by simp [E2]) rfl
 ·simp; rintro rfl; simp at h
 ·have : i = xs.length := by omega
  subst this
  rw [tL (by omega), tL (by omega)] at hp
  simp [hp]
theorem w50 (xs ys : List Nod) (b : Bool) : Pu 50 [Tr xs, Tr ys, B b] (· = B (all2 (sameNd b) xs ys)) := by
  refine GCalls.lenA fun hl => ?_
  obtain ⟨hlen, _⟩ := lenTr hl.1
  refine gstart mxd i50 rfl (by simp) ?_; simp (maxSteps := 9^7) only [↓ S2, S2, vIte, ↓reduceIte, reduceNe, reduceEqDiff, reduceCtorEq, reduceLeDiff, reduceAdd, reduceLT]
  ((try refine qI ?_); (repeat ((first | with_reducible refine qU ?_ | simp only [brGen]); try simp (maxSteps := 9^7) only [↓ S2, S2, vIte, ↓reduceIte, reduceNe, reduceEqDiff, reduceCtorEq, reduceLeDiff, reduceAdd, reduceLT])); (try simp +contextual (disch := omega) only [Z2]); (with_reducible repeat' (first | intro h | refine And.intro (by omega) ?_ | refine exP (by omega) ?_ | apply And.intro)))
  rotate_left
  · rw [all2_len h]
  refine wloop mxd (ι := { i : Nat // i ≤ xs.length ∧ ∀ j (h1 : j < xs.length) (h2 : j < ys.length), j < i → sameNd b xs[j] ys[j] = true }) (fun i => [(3, .rop 1 (Tr xs)), (4, .rop 1 (Tr ys)), (2, B b), (7, I i.1)]) (fun _ => []) (fun i => xs.length - i.1) ⟨0, by simp⟩ (by simp [E2, h]) rfl ?_
  rintro ⟨i, hi, hn⟩
  cases b
  all_goals
    ((try refine qI ?_); (repeat ((first | with_reducible refine qU ?_ | simp only [brGen]); try simp (maxSteps := 9^7) only [↓ S2, S2, vIte, ↓reduceIte, reduceNe, reduceEqDiff, reduceCtorEq, reduceLeDiff, reduceAdd, reduceLT])); (try simp +contextual (disch := omega) only [Z2]); (with_reducible repeat' (first | intro h | refine And.intro (by omega) ?_ | refine exP (by omega) ?_ | apply And.intro)))
    all_goals first
      | (rw [all2_no (i := i) (by omega) (by omega) (by simp [sameNd, *])]; done)
      | (rw [all2_yes (by omega) fun j h1 h2 => hn j h1 h2 (by omega)]; done)
      | (refine callS.eq (w77 _ _) ?_
         ((try refine qI ?_); (repeat ((first | with_reducible refine qU ?_ | simp only [brGen]); try simp (maxSteps := 9^7) only [↓ S2, S2, vIte, ↓reduceIte, reduceNe, reduceEqDiff, reduceCtorEq, reduceLeDiff, reduceAdd, reduceLT])); (try simp +contextual (disch := omega) only [Z2]); (with_reducible repeat' (first | intro h | refine And.intro (by omega) ?_ | refine exP (by omega) ?_ | apply And.intro)))
         · exact nx ⟨i + 1, by omega, all2_step (h1 := by omega) (h2 := by omega) (by simp [sameNd, *]) hn⟩ (by simp; omega) (by simp [E2]) rfl
         · rw [all2_no (i := i) (by omega) (by omega) (by simp [sameNd, *])])
theorem w24 (t u : List Nod) : Pu 24 [Tr t, Tr u] (· = B (all2 (sameNd true) t u)) := by
 refine gstart mxd i24 rfl (by simp) ?_; simp (maxSteps := 9^7) only [↓ S2, S2, vIte, ↓reduceIte, reduceNe, reduceEqDiff, reduceCtorEq, reduceLeDiff, reduceAdd, reduceLT]
 refine callS.eq (w50 t u true) ?_
 ((try refine qI ?_); (repeat ((first | with_reducible refine qU ?_ | simp only [brGen]); try simp (maxSteps := 9^7) only [↓ S2, S2, vIte, ↓reduceIte, reduceNe, reduceEqDiff, reduceCtorEq, reduceLeDiff, reduceAdd, reduceLT])); (try simp +contextual (disch := omega) only [Z2]); (with_reducible repeat' (first | intro h | refine And.intro (by omega) ?_ | refine exP (by omega) ?_ | apply And.intro)))
end Go.Proofs.Ytfpjmfjhdaccnaa
namespace Go.Proofs.Ytfpjmfjhdaccnaa
open Go.Gh
open Nat (reduceEqDiff reduceLeDiff reduceAdd reduceLT)
open Int (reduceNe)
set_option maxRecDepth 20000
set_option linter.unusedSimpArgs false
set_option linter.unusedVariables false
theorem w125 : Pu 125 [] (· = .sl 1 (kwS.map T)) := by
 have o : Gc 125 [] [] (fun g H' => ∃ r, g = .own r 1 0 13 ∧ H' = [(r, 1, kwS.map T)]) := by
  refine gstart mxd i125 rfl (by simp) ?_; simp (maxSteps := 9^7) only [↓ S2, S2, vIte, ↓reduceIte, reduceNe, reduceEqDiff, reduceCtorEq, reduceLeDiff, reduceAdd, reduceLT]
  intro r hr
  exact ⟨r, rfl, rfl⟩
 refine o.fr ?_
 rintro g H' ⟨r, rfl, rfl⟩
 exact ⟨_, _, FR.freeze hget_new (.all hget_new (by simp [kwS]) (by simp [view, kwS])), rfl⟩
theorem w124 (l : List ByteArray) (s : ByteArray) : Pu 124 [.sl 1 (l.map T), T s] (· = B (hasS l s)) := by
 refine GCalls.lenA fun hl => ?_
 have hlen := hl.1.1
 simp only [List.length_map, maxL] at hlen
 refine gstart mxd i124 rfl (by simp) ?_; simp (maxSteps := 9^7) only [↓ S2, S2, vIte, ↓reduceIte, reduceNe, reduceEqDiff, reduceCtorEq, reduceLeDiff, reduceAdd, reduceLT]
 refine wloop mxd (ι := { i : Nat // i ≤ l.length ∧ ∀ y ∈ l.take i, decide (y = s) = false }) (fun i => [(0, .sl 1 (l.map T)), (1, T s), (5, I i.1)]) (fun _ => []) (fun i => l.length - i.1) ⟨0, by simp⟩ (by simp [E2]) rfl ?_
 rintro ⟨i, hi, hn⟩
 ((try refine qI ?_); (repeat ((first | with_reducible refine qU ?_ | simp only [brGen]); try simp (maxSteps := 9^7) only [↓ S2, S2, vIte, ↓reduceIte, reduceNe, reduceEqDiff, reduceCtorEq, reduceLeDiff, reduceAdd, reduceLT])); (try simp +contextual (disch := omega) only [Z2]); (with_reducible repeat' (first | intro h | refine And.intro (by omega) ?_ | refine exP (by omega) ?_ | apply And.intro)))
 ·rw [hasS_hit (by assumption) h]
 ·exact nx ⟨i + 1, by omega, take_step (by assumption) (by simpa using h) hn⟩ (by simp; omega) (by simp [E2]) rfl
 ·have : i = l.length := by omega
  subst this
  rw [tL (Nat.le_refl _)] at hn
  rw [hasS_none hn]
theorem w123 (s : ByteArray) : Pu 123 [T s] (· = B (resV s)) := by
 refine gstart mxd i123 rfl (by simp) ?_; simp (maxSteps := 9^7) only [↓ S2, S2, vIte, ↓reduceIte, reduceNe, reduceEqDiff, reduceCtorEq, reduceLeDiff, reduceAdd, reduceLT]
 refine callS.eq w125 ?_
 ((try refine qI ?_); (repeat ((first | with_reducible refine qU ?_ | simp only [brGen]); try simp (maxSteps := 9^7) only [↓ S2, S2, vIte, ↓reduceIte, reduceNe, reduceEqDiff, reduceCtorEq, reduceLeDiff, reduceAdd, reduceLT])); (try simp +contextual (disch := omega) only [Z2]); (with_reducible repeat' (first | intro h | refine And.intro (by omega) ?_ | refine exP (by omega) ?_ | apply And.intro)))
 refine callS.eq (w124 _ _) ?_
 ((try refine qI ?_); (repeat ((first | with_reducible refine qU ?_ | simp only [brGen]); try simp (maxSteps := 9^7) only [↓ S2, S2, vIte, ↓reduceIte, reduceNe, reduceEqDiff, reduceCtorEq, reduceLeDiff, reduceAdd, reduceLT])); (try simp +contextual (disch := omega) only [Z2]); (with_reducible repeat' (first | intro h | refine And.intro (by omega) ?_ | refine exP (by omega) ?_ | apply And.intro)))
 rfl
theorem w122 (s : ByteArray) (hs : s.size ≤ maxLen) : Pu 122 [T s] (· = B (shp (chars s))) := by
  simp only [maxLen, size_chars] at hs
  refine gstart mxd i122 rfl (by simp) ?_; simp (maxSteps := 9^7) only [↓ S2, S2, vIte, ↓reduceIte, reduceNe, reduceEqDiff, reduceCtorEq, reduceLeDiff, reduceAdd, reduceLT]
  refine wloop mxd (ι := { i : Nat // i ≤ (chars s).length ∧ ∀ (j : Nat) (h : j < (chars s).length), j < i → letV (chars s)[j] = true ∨ (j ≠ 0 ∧ digV (chars s)[j] = true) }) (fun i => [(0, T s), (3, I i.1)]) (fun _ => []) (fun i => (chars s).length - i.1) ⟨0, by simp⟩ (by simp [E2]) rfl ?_
  rintro ⟨i, hi, hn⟩
  ((try refine qI ?_); (repeat ((first | with_reducible refine qU ?_ | simp only [brGen]); try simp (maxSteps := 9^7) only [↓ S2, S2, vIte, ↓reduceIte, reduceNe, reduceEqDiff, reduceCtorEq, reduceLeDiff, reduceAdd, reduceLT])); (try simp +contextual (disch := omega) only [Z2]); (with_reducible repeat' (first | intro h | refine And.intro (by omega) ?_ | refine exP (by omega) ?_ | apply And.intro)))
  all_goals first
    | (rw [shp_bad (i := i) (by assumption) (by simp only [letV, digV, Bool.and_eq_true, decide_eq_true_eq]; omega)]; done)
    | (have hlt : i < (chars s).length := by omega
       have hg : letV (chars s)[i] = true ∨ (i ≠ 0 ∧ digV (chars s)[i] = true) := by
         simp only [letV, digV, Bool.and_eq_true, decide_eq_true_eq]
         omega
       exact nx ⟨i + 1, by omega, shp_step hlt hn hg⟩ (by simp; omega) (by simp [E2]) rfl)
    | (have : i = (chars s).length := by omega
       subst this
       rw [shp_end hn]
       simp; done)
    | skip
  all_goals have hlt : i < (chars s).length := by omega
  all_goals have hg : letV (chars s)[i] = true ∨ (i ≠ 0 ∧ digV (chars s)[i] = true) := by (simp only [letV, digV, Bool.and_eq_true, decide_eq_true_eq]; omega)
  all_goals refine nx ⟨i + 1, by omega, shp_step hlt hn hg⟩ ?_ ?_ rfl
  all_goals first | (simp only; omega) | exact (by simp [E2]) | skip
theorem w121 (s : ByteArray) (hs : s.size ≤ maxLen) : Pu 121 [T s] (· = B (nameV s)) := by
 have hs' := hs
 simp only [maxLen, size_chars] at hs'
 refine gstart mxd i121 rfl (by simp) ?_; simp (maxSteps := 9^7) only [↓ S2, S2, vIte, ↓reduceIte, reduceNe, reduceEqDiff, reduceCtorEq, reduceLeDiff, reduceAdd, reduceLT]
 refine callS.eq (w122 s hs) ?_
 ((try refine qI ?_); (repeat ((first | with_reducible refine qU ?_ | simp only [brGen]); try simp (maxSteps := 9^7) only [↓ S2, S2, vIte, ↓reduceIte, reduceNe, reduceEqDiff, reduceCtorEq, reduceLeDiff, reduceAdd, reduceLT])); (try simp +contextual (disch := omega) only [Z2]); (with_reducible repeat' (first | intro h | refine And.intro (by omega) ?_ | refine exP (by omega) ?_ | apply And.intro)))
 all_goals try (refine callS.eq (w123 _) ?_; ((try refine qI ?_); (repeat ((first | with_reducible refine qU ?_ | simp only [brGen]); try simp (maxSteps := 9^7) only [↓ S2, S2, vIte, ↓reduceIte, reduceNe, reduceEqDiff, reduceCtorEq, reduceLeDiff, reduceAdd, reduceLT])); (try simp +contextual (disch := omega) only [Z2]); (with_reducible repeat' (first | intro h | refine And.intro (by omega) ?_ | refine exP (by omega) ?_ | apply And.intro))))
 all_goals simp_all [nameV]
 all_goals try (intros; omega)
end Go.Proofs.Ytfpjmfjhdaccnaa
