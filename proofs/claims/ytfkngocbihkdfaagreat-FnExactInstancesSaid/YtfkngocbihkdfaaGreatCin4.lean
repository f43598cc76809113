/- The law FnExactInstances returns true whatever the input, and the input reads behind the call as before. No condition. -/
import Derived.Test.YtfkngocbihkdfaaGreatCin3
namespace Go.Proofs.YtfkngocbihkdfaaGreat
open Go.Gh
set_option maxRecDepth 20000
set_option linter.unusedSimpArgs false
set_option linter.unusedVariables false
set_option maxHeartbeats 2000000 in
theorem w143 (g : Gram) (t : List Nod) (hg : smGr g) (hl : t.length ≤ 1048576) (hk : ∀ x ∈ t, x.kids.length ≤ 1048576) : ∀ (f i : Nat) (p q : Int) (s : ByteArray), t.length ≤ i + f → Pure Tryz.prog 143 [Gr g, Tr t, I i, I p, I q, T s] (· = I (walkE g t f i p q s)) := by
  intro f
  induction f with
  | zero =>
    intro i p q s hf
    refine gstart mxd i143 rfl (by simp) ?_; simp (maxSteps := 2000000) only [↓ S2, S2, vIte, ↓reduceIte, Int.reduceNe, Nat.reduceEqDiff, reduceCtorEq, Nat.reduceLeDiff, Nat.reduceAdd, Nat.reduceLT]
    ((try simp (maxSteps := 2000000) only [↓ S2, S2, vIte, ↓reduceIte, Int.reduceNe, Nat.reduceEqDiff, reduceCtorEq, Nat.reduceLeDiff, Nat.reduceAdd, Nat.reduceLT]); (repeat (simp only [brGen]; try simp (maxSteps := 2000000) only [↓ S2, S2, vIte, ↓reduceIte, Int.reduceNe, Nat.reduceEqDiff, reduceCtorEq, Nat.reduceLeDiff, Nat.reduceAdd, Nat.reduceLT])); (try simp +contextual (disch := omega) only [Z2]); (repeat' (first | (with_reducible intro h) | (with_reducible refine And.intro (by omega) ?_) | (with_reducible refine exP (by omega) ?_) | (with_reducible apply And.intro))))
    all_goals first | rfl | (exfalso; omega)
  | succ f ih =>
    intro i p q s hf
    refine gstart mxd i143 rfl (by simp) ?_; simp (maxSteps := 2000000) only [↓ S2, S2, vIte, ↓reduceIte, Int.reduceNe, Nat.reduceEqDiff, reduceCtorEq, Nat.reduceLeDiff, Nat.reduceAdd, Nat.reduceLT]
    by_cases hi : i < t.length
    rotate_left
    · rw [walkE_out (by omega)]
      ((try simp (maxSteps := 2000000) only [↓ S2, S2, vIte, ↓reduceIte, Int.reduceNe, Nat.reduceEqDiff, reduceCtorEq, Nat.reduceLeDiff, Nat.reduceAdd, Nat.reduceLT]); (repeat (simp only [brGen]; try simp (maxSteps := 2000000) only [↓ S2, S2, vIte, ↓reduceIte, Int.reduceNe, Nat.reduceEqDiff, reduceCtorEq, Nat.reduceLeDiff, Nat.reduceAdd, Nat.reduceLT])); (try simp +contextual (disch := omega) only [Z2]); (repeat' (first | (with_reducible intro h) | (with_reducible refine And.intro (by omega) ?_) | (with_reducible refine exP (by omega) ?_) | (with_reducible apply And.intro))))
      all_goals first | rfl | (exfalso; omega)
    have hw : walkE g t (f + 1) i p q s = if fitV g t[i] p q s then kidsW (walkE g t f) i t[i].kids (fRul g.rules t[i].rule).right 0 (i + 1) else -1 := by simp only [walkE, if_pos hi, getD_lt hi]
    have hkk := hk _ (List.getElem_mem hi)
    have hr := smRu_f hg t[i].rule
    have hrr := hr.1
    rw [hw]
    by_cases hv : fitV g t[i] p q s = true
    · rw [if_pos hv]
      obtain ⟨h1, h2, h3, h4, h5, h6, h7⟩ := fitV_iff.1 hv
      subst h2 h3 h4
      clear hw hv
      have hR : ∃ R, fRul g.rules t[i].rule = R := ⟨_, rfl⟩
      obtain ⟨R, hR⟩ := hR
      rw [hR] at hr hrr h5 h7 ⊢
      have main : ∀ (Q : Exit → Env → GH → Prop), True := fun _ => trivial
      rcases h7 with h7 | h7
      · (repeat' (first | (with_reducible refine callS.eq (w62 _ _ hg) ?_) | (with_reducible refine callS.eq (w204 _ _) ?_) | simp (maxSteps := 2000000) only [↓ S2, S2, vIte, ↓reduceIte, Int.reduceNe, Nat.reduceEqDiff, reduceCtorEq, Nat.reduceLeDiff, Nat.reduceAdd, Nat.reduceLT, h1, h5, okV1, eq_true h6, h7, hR] | simp only [brGen] | simp +contextual (disch := omega) only [Z2] | (with_reducible intro h) | (with_reducible refine And.intro (by omega) ?_) | (with_reducible refine exP (by omega) ?_) | (with_reducible apply And.intro)))
        all_goals try (exfalso; omega)
        have hVV : ∃ V, kidsW (walkE g t f) i t[i].kids R.right 0 (i + 1) = V := ⟨_, rfl⟩
        obtain ⟨V, hVV⟩ := hVV
        rw [hVV]
        refine wloop mxd (ι := { x : Nat × Int // x.1 ≤ R.right.length ∧ (i : Int) < x.2 ∧ x.2 ≤ t.length ∧ kidsW (walkE g t f) i (t[i].kids.drop x.1) (R.right.drop x.1) x.1 x.2 = V }) (fun x => [(2, I i), (6, .rop 2 (Gr g)), (7, .rop 1 (Tr t)), (13, .rop 6 (Nd t[i])), (14, .rop 6 (Ru R)), (16, I x.1.2), (17, I x.1.1)]) (fun _ => []) (fun x => R.right.length - x.1.1) ⟨(0, i + 1), by simp, by simp; omega, by simp; omega, by simpa using hVV⟩ (by simp [E2, h7]) rfl ?_
        rintro ⟨⟨k, a⟩, hk1, ha1, ha2, hV⟩
        dsimp only at hk1 ha1 ha2 hV ⊢
        rcases Nat.lt_or_ge k R.right.length with hlt | hge
        · rw [kidsW_step (by omega) hlt] at hV
          by_cases hc : t[i].kids[k] = a
          · rw [if_neg (by simpa using hc)] at hV
            obtain ⟨m, rfl⟩ : ∃ m : Nat, a = m := ⟨a.toNat, by omega⟩
            have hm := walkE_ge (g := g) (t := t) f m i ((k : Int) + 1) R.right[k]
            simp only [Int.toNat_natCast] at hV
            (repeat' (first | (with_reducible refine callS.eq (ih m _ _ _ (by omega)) ?_) | simp (maxSteps := 2000000) only [↓ S2, S2, vIte, ↓reduceIte, Int.reduceNe, Nat.reduceEqDiff, reduceCtorEq, Nat.reduceLeDiff, Nat.reduceAdd, Nat.reduceLT, h5, hc] | simp only [brGen] | simp +contextual (disch := omega) only [Z2] | (with_reducible intro h) | (with_reducible refine And.intro (by omega) ?_) | (with_reducible refine exP (by omega) ?_) | (with_reducible apply And.intro)))
            all_goals try (exfalso; omega)
            · rw [if_pos (by assumption)] at hV; rw [← hV]
            · rw [if_neg (by assumption)] at hV
              exact nx ⟨(k + 1, walkE g t f m i ((k : Int) + 1) R.right[k]), by omega, by dsimp only; omega, by dsimp only; omega, hV⟩ (by simp; omega) (by simp [E2]) rfl
          · rw [if_pos (by simpa using hc)] at hV
            (repeat' (first | (with_reducible refine callS.eq (ih _ _ _ _ (by omega)) ?_) | simp (maxSteps := 2000000) only [↓ S2, S2, vIte, ↓reduceIte, Int.reduceNe, Nat.reduceEqDiff, reduceCtorEq, Nat.reduceLeDiff, Nat.reduceAdd, Nat.reduceLT, h5, hc] | simp only [brGen] | simp +contextual (disch := omega) only [Z2] | (with_reducible intro h) | (with_reducible refine And.intro (by omega) ?_) | (with_reducible refine exP (by omega) ?_) | (with_reducible apply And.intro)))
            all_goals first | (rw [← hV]; done) | (exfalso; omega)
        · rw [kidsW_end (by omega)] at hV
          ((try simp (maxSteps := 2000000) only [↓ S2, S2, vIte, ↓reduceIte, Int.reduceNe, Nat.reduceEqDiff, reduceCtorEq, Nat.reduceLeDiff, Nat.reduceAdd, Nat.reduceLT]); (repeat (simp only [brGen]; try simp (maxSteps := 2000000) only [↓ S2, S2, vIte, ↓reduceIte, Int.reduceNe, Nat.reduceEqDiff, reduceCtorEq, Nat.reduceLeDiff, Nat.reduceAdd, Nat.reduceLT])); (try simp +contextual (disch := omega) only [Z2]); (repeat' (first | (with_reducible intro h) | (with_reducible refine And.intro (by omega) ?_) | (with_reducible refine exP (by omega) ?_) | (with_reducible apply And.intro))))
          all_goals first | (rw [← hV]; done) | (exfalso; omega)
      · (repeat' (first | (with_reducible refine callS.eq (w62 _ _ hg) ?_) | (with_reducible refine callS.eq (w204 _ _) ?_) | simp (maxSteps := 2000000) only [↓ S2, S2, vIte, ↓reduceIte, Int.reduceNe, Nat.reduceEqDiff, reduceCtorEq, Nat.reduceLeDiff, Nat.reduceAdd, Nat.reduceLT, h1, h5, okV1, eq_true h6, h7.1, eq_true h7.2, hR] | simp only [brGen] | simp +contextual (disch := omega) only [Z2] | (with_reducible intro h) | (with_reducible refine And.intro (by omega) ?_) | (with_reducible refine exP (by omega) ?_) | (with_reducible apply And.intro)))
        all_goals try (exfalso; omega)
        have hVV : ∃ V, kidsW (walkE g t f) i t[i].kids R.right 0 (i + 1) = V := ⟨_, rfl⟩
        obtain ⟨V, hVV⟩ := hVV
        rw [hVV]
        refine wloop mxd (ι := { x : Nat × Int // x.1 ≤ R.right.length ∧ (i : Int) < x.2 ∧ x.2 ≤ t.length ∧ kidsW (walkE g t f) i (t[i].kids.drop x.1) (R.right.drop x.1) x.1 x.2 = V }) (fun x => [(2, I i), (6, .rop 2 (Gr g)), (7, .rop 1 (Tr t)), (13, .rop 6 (Nd t[i])), (14, .rop 6 (Ru R)), (16, I x.1.2), (17, I x.1.1)]) (fun _ => []) (fun x => R.right.length - x.1.1) ⟨(0, i + 1), by simp, by simp; omega, by simp; omega, by simpa using hVV⟩ (by simp [E2, h7]) rfl ?_
        rintro ⟨⟨k, a⟩, hk1, ha1, ha2, hV⟩
        dsimp only at hk1 ha1 ha2 hV ⊢
        rcases Nat.lt_or_ge k R.right.length with hlt | hge
        · rw [kidsW_step (by omega) hlt] at hV
          by_cases hc : t[i].kids[k] = a
          · rw [if_neg (by simpa using hc)] at hV
            obtain ⟨m, rfl⟩ : ∃ m : Nat, a = m := ⟨a.toNat, by omega⟩
            have hm := walkE_ge (g := g) (t := t) f m i ((k : Int) + 1) R.right[k]
            simp only [Int.toNat_natCast] at hV
            (repeat' (first | (with_reducible refine callS.eq (ih m _ _ _ (by omega)) ?_) | simp (maxSteps := 2000000) only [↓ S2, S2, vIte, ↓reduceIte, Int.reduceNe, Nat.reduceEqDiff, reduceCtorEq, Nat.reduceLeDiff, Nat.reduceAdd, Nat.reduceLT, h5, hc] | simp only [brGen] | simp +contextual (disch := omega) only [Z2] | (with_reducible intro h) | (with_reducible refine And.intro (by omega) ?_) | (with_reducible refine exP (by omega) ?_) | (with_reducible apply And.intro)))
            all_goals try (exfalso; omega)
            · rw [if_pos (by assumption)] at hV; rw [← hV]
            · rw [if_neg (by assumption)] at hV
              exact nx ⟨(k + 1, walkE g t f m i ((k : Int) + 1) R.right[k]), by omega, by dsimp only; omega, by dsimp only; omega, hV⟩ (by simp; omega) (by simp [E2]) rfl
          · rw [if_pos (by simpa using hc)] at hV
            (repeat' (first | (with_reducible refine callS.eq (ih _ _ _ _ (by omega)) ?_) | simp (maxSteps := 2000000) only [↓ S2, S2, vIte, ↓reduceIte, Int.reduceNe, Nat.reduceEqDiff, reduceCtorEq, Nat.reduceLeDiff, Nat.reduceAdd, Nat.reduceLT, h5, hc] | simp only [brGen] | simp +contextual (disch := omega) only [Z2] | (with_reducible intro h) | (with_reducible refine And.intro (by omega) ?_) | (with_reducible refine exP (by omega) ?_) | (with_reducible apply And.intro)))
            all_goals first | (rw [← hV]; done) | (exfalso; omega)
        · rw [kidsW_end (by omega)] at hV
          ((try simp (maxSteps := 2000000) only [↓ S2, S2, vIte, ↓reduceIte, Int.reduceNe, Nat.reduceEqDiff, reduceCtorEq, Nat.reduceLeDiff, Nat.reduceAdd, Nat.reduceLT]); (repeat (simp only [brGen]; try simp (maxSteps := 2000000) only [↓ S2, S2, vIte, ↓reduceIte, Int.reduceNe, Nat.reduceEqDiff, reduceCtorEq, Nat.reduceLeDiff, Nat.reduceAdd, Nat.reduceLT])); (try simp +contextual (disch := omega) only [Z2]); (repeat' (first | (with_reducible intro h) | (with_reducible refine And.intro (by omega) ?_) | (with_reducible refine exP (by omega) ?_) | (with_reducible apply And.intro))))
          all_goals first | (rw [← hV]; done) | (exfalso; omega)
    · rw [if_neg hv]
      rw [fitV_iff] at hv
      (repeat' (first | (with_reducible refine callS.eq (w62 _ _ hg) ?_) | (with_reducible refine callS.eq (w204 _ _) ?_) | simp (maxSteps := 2000000) only [↓ S2, S2, vIte, ↓reduceIte, Int.reduceNe, Nat.reduceEqDiff, reduceCtorEq, Nat.reduceLeDiff, Nat.reduceAdd, Nat.reduceLT] | simp only [brGen] | simp +contextual (disch := omega) only [Z2] | (with_reducible intro h) | (with_reducible refine And.intro (by omega) ?_) | (with_reducible refine exP (by omega) ?_) | (with_reducible apply And.intro)))
      all_goals try rfl
      all_goals (exfalso; apply hv; simp_all only [okV1, decide_eq_true_eq, decide_eq_false_iff_not, true_and, and_true, or_true, true_or, not_true_eq_false, not_false_eq_true]; done)
set_option maxHeartbeats 2000000 in
theorem w263 (g : Gram) (t : List Nod) (hg : smGr g) (hl : t.length ≤ 1048576) (hk : ∀ x ∈ t, x.kids.length ≤ 1048576) : ∀ (f i : Nat) (p q : Int) (s : ByteArray), t.length ≤ i + f → Pure Tryz.prog 263 [Gr g, Tr t, I i, I p, I q, T s] (· = I (walkE g t f i p q s)) := by
  intro f
  induction f with
  | zero =>
    intro i p q s hf
    refine gstart mxd i263 rfl (by simp) ?_; simp (maxSteps := 2000000) only [↓ S2, S2, vIte, ↓reduceIte, Int.reduceNe, Nat.reduceEqDiff, reduceCtorEq, Nat.reduceLeDiff, Nat.reduceAdd, Nat.reduceLT]
    ((try simp (maxSteps := 2000000) only [↓ S2, S2, vIte, ↓reduceIte, Int.reduceNe, Nat.reduceEqDiff, reduceCtorEq, Nat.reduceLeDiff, Nat.reduceAdd, Nat.reduceLT]); (repeat (simp only [brGen]; try simp (maxSteps := 2000000) only [↓ S2, S2, vIte, ↓reduceIte, Int.reduceNe, Nat.reduceEqDiff, reduceCtorEq, Nat.reduceLeDiff, Nat.reduceAdd, Nat.reduceLT])); (try simp +contextual (disch := omega) only [Z2]); (repeat' (first | (with_reducible intro h) | (with_reducible refine And.intro (by omega) ?_) | (with_reducible refine exP (by omega) ?_) | (with_reducible apply And.intro))))
    all_goals first | rfl | (exfalso; omega)
  | succ f ih =>
    intro i p q s hf
    refine gstart mxd i263 rfl (by simp) ?_; simp (maxSteps := 2000000) only [↓ S2, S2, vIte, ↓reduceIte, Int.reduceNe, Nat.reduceEqDiff, reduceCtorEq, Nat.reduceLeDiff, Nat.reduceAdd, Nat.reduceLT]
    by_cases hi : i < t.length
    rotate_left
    · rw [walkE_out (by omega)]
      ((try simp (maxSteps := 2000000) only [↓ S2, S2, vIte, ↓reduceIte, Int.reduceNe, Nat.reduceEqDiff, reduceCtorEq, Nat.reduceLeDiff, Nat.reduceAdd, Nat.reduceLT]); (repeat (simp only [brGen]; try simp (maxSteps := 2000000) only [↓ S2, S2, vIte, ↓reduceIte, Int.reduceNe, Nat.reduceEqDiff, reduceCtorEq, Nat.reduceLeDiff, Nat.reduceAdd, Nat.reduceLT])); (try simp +contextual (disch := omega) only [Z2]); (repeat' (first | (with_reducible intro h) | (with_reducible refine And.intro (by omega) ?_) | (with_reducible refine exP (by omega) ?_) | (with_reducible apply And.intro))))
      all_goals first | rfl | (exfalso; omega)
    have hw : walkE g t (f + 1) i p q s = if fitV g t[i] p q s then kidsW (walkE g t f) i t[i].kids (fRul g.rules t[i].rule).right 0 (i + 1) else -1 := by simp only [walkE, if_pos hi, getD_lt hi]
    have hkk := hk _ (List.getElem_mem hi)
    have hr := smRu_f hg t[i].rule
    have hrr := hr.1
    rw [hw]
    by_cases hv : fitV g t[i] p q s = true
    · rw [if_pos hv]
      obtain ⟨h1, h2, h3, h4, h5, h6, h7⟩ := fitV_iff.1 hv
      subst h2 h3 h4
      clear hw hv
      have hR : ∃ R, fRul g.rules t[i].rule = R := ⟨_, rfl⟩
      obtain ⟨R, hR⟩ := hR
      rw [hR] at hr hrr h5 h7 ⊢
      have main : ∀ (Q : Exit → Env → GH → Prop), True := fun _ => trivial
      rcases h7 with h7 | h7
      · (repeat' (first | (with_reducible refine callS.eq (w70 _ _ hg) ?_) | (with_reducible refine callS.eq (w93 _ _ _) ?_) | simp (maxSteps := 2000000) only [↓ S2, S2, vIte, ↓reduceIte, Int.reduceNe, Nat.reduceEqDiff, reduceCtorEq, Nat.reduceLeDiff, Nat.reduceAdd, Nat.reduceLT, h1, h5, eq_true h6, h7, hR] | simp only [brGen] | simp +contextual (disch := omega) only [Z2] | (with_reducible intro h) | (with_reducible refine And.intro (by omega) ?_) | (with_reducible refine exP (by omega) ?_) | (with_reducible apply And.intro)))
        all_goals try (exfalso; omega)
        have hVV : ∃ V, kidsW (walkE g t f) i t[i].kids R.right 0 (i + 1) = V := ⟨_, rfl⟩
        obtain ⟨V, hVV⟩ := hVV
        rw [hVV]
        refine wloop mxd (ι := { x : Nat × Int // x.1 ≤ R.right.length ∧ (i : Int) < x.2 ∧ x.2 ≤ t.length ∧ kidsW (walkE g t f) i (t[i].kids.drop x.1) (R.right.drop x.1) x.1 x.2 = V }) (fun x => [(2, I i), (6, .rop 2 (Gr g)), (7, .rop 1 (Tr t)), (14, .rop 6 (Ru R)), (16, I x.1.2), (84, IS t[i].kids), (85, I R.right.length), (86, I x.1.1)]) (fun _ => []) (fun x => R.right.length - x.1.1) ⟨(0, i + 1), by simp, by simp; omega, by simp; omega, by simpa using hVV⟩ (by simp [E2, h7]) rfl ?_
        rintro ⟨⟨k, a⟩, hk1, ha1, ha2, hV⟩
        dsimp only at hk1 ha1 ha2 hV ⊢
        rcases Nat.lt_or_ge k R.right.length with hlt | hge
        · rw [kidsW_step (by omega) hlt] at hV
          by_cases hc : t[i].kids[k] = a
          · rw [if_neg (by simpa using hc)] at hV
            obtain ⟨m, rfl⟩ : ∃ m : Nat, a = m := ⟨a.toNat, by omega⟩
            have hm := walkE_ge (g := g) (t := t) f m i ((k : Int) + 1) R.right[k]
            simp only [Int.toNat_natCast] at hV
            (repeat' (first | (with_reducible refine callS.eq (ih m _ _ _ (by omega)) ?_) | simp (maxSteps := 2000000) only [↓ S2, S2, vIte, ↓reduceIte, Int.reduceNe, Nat.reduceEqDiff, reduceCtorEq, Nat.reduceLeDiff, Nat.reduceAdd, Nat.reduceLT, h5, hc] | simp only [brGen] | simp +contextual (disch := omega) only [Z2] | (with_reducible intro h) | (with_reducible refine And.intro (by omega) ?_) | (with_reducible refine exP (by omega) ?_) | (with_reducible apply And.intro)))
            all_goals try (exfalso; omega)
            · rw [if_pos (by assumption)] at hV; rw [← hV]
            · rw [if_neg (by assumption)] at hV
              exact nx ⟨(k + 1, walkE g t f m i ((k : Int) + 1) R.right[k]), by omega, by dsimp only; omega, by dsimp only; omega, hV⟩ (by simp; omega) (by simp [E2]) rfl
          · rw [if_pos (by simpa using hc)] at hV
            (repeat' (first | (with_reducible refine callS.eq (ih _ _ _ _ (by omega)) ?_) | simp (maxSteps := 2000000) only [↓ S2, S2, vIte, ↓reduceIte, Int.reduceNe, Nat.reduceEqDiff, reduceCtorEq, Nat.reduceLeDiff, Nat.reduceAdd, Nat.reduceLT, h5, hc] | simp only [brGen] | simp +contextual (disch := omega) only [Z2] | (with_reducible intro h) | (with_reducible refine And.intro (by omega) ?_) | (with_reducible refine exP (by omega) ?_) | (with_reducible apply And.intro)))
            all_goals first | (rw [← hV]; done) | (exfalso; omega)
        · rw [kidsW_end (by omega)] at hV
          ((try simp (maxSteps := 2000000) only [↓ S2, S2, vIte, ↓reduceIte, Int.reduceNe, Nat.reduceEqDiff, reduceCtorEq, Nat.reduceLeDiff, Nat.reduceAdd, Nat.reduceLT]); (repeat (simp only [brGen]; try simp (maxSteps := 2000000) only [↓ S2, S2, vIte, ↓reduceIte, Int.reduceNe, Nat.reduceEqDiff, reduceCtorEq, Nat.reduceLeDiff, Nat.reduceAdd, Nat.reduceLT])); (try simp +contextual (disch := omega) only [Z2]); (repeat' (first | (with_reducible intro h) | (with_reducible refine And.intro (by omega) ?_) | (with_reducible refine exP (by omega) ?_) | (with_reducible apply And.intro))))
          all_goals first | (rw [← hV]; done) | (exfalso; omega)
      · (repeat' (first | (with_reducible refine callS.eq (w70 _ _ hg) ?_) | (with_reducible refine callS.eq (w93 _ _ _) ?_) | simp (maxSteps := 2000000) only [↓ S2, S2, vIte, ↓reduceIte, Int.reduceNe, Nat.reduceEqDiff, reduceCtorEq, Nat.reduceLeDiff, Nat.reduceAdd, Nat.reduceLT, h1, h5, eq_true h6, h7.1, eq_true h7.2, hR] | simp only [brGen] | simp +contextual (disch := omega) only [Z2] | (with_reducible intro h) | (with_reducible refine And.intro (by omega) ?_) | (with_reducible refine exP (by omega) ?_) | (with_reducible apply And.intro)))
        all_goals try (exfalso; omega)
        have hVV : ∃ V, kidsW (walkE g t f) i t[i].kids R.right 0 (i + 1) = V := ⟨_, rfl⟩
        obtain ⟨V, hVV⟩ := hVV
        rw [hVV]
        refine wloop mxd (ι := { x : Nat × Int // x.1 ≤ R.right.length ∧ (i : Int) < x.2 ∧ x.2 ≤ t.length ∧ kidsW (walkE g t f) i (t[i].kids.drop x.1) (R.right.drop x.1) x.1 x.2 = V }) (fun x => [(2, I i), (6, .rop 2 (Gr g)), (7, .rop 1 (Tr t)), (14, .rop 6 (Ru R)), (16, I x.1.2), (84, IS t[i].kids), (85, I R.right.length), (86, I x.1.1)]) (fun _ => []) (fun x => R.right.length - x.1.1) ⟨(0, i + 1), by simp, by simp; omega, by simp; omega, by simpa using hVV⟩ (by simp [E2, h7]) rfl ?_
        rintro ⟨⟨k, a⟩, hk1, ha1, ha2, hV⟩
        dsimp only at hk1 ha1 ha2 hV ⊢
        rcases Nat.lt_or_ge k R.right.length with hlt | hge
        · rw [kidsW_step (by omega) hlt] at hV
          by_cases hc : t[i].kids[k] = a
          · rw [if_neg (by simpa using hc)] at hV
            obtain ⟨m, rfl⟩ : ∃ m : Nat, a = m := ⟨a.toNat, by omega⟩
            have hm := walkE_ge (g := g) (t := t) f m i ((k : Int) + 1) R.right[k]
            simp only [Int.toNat_natCast] at hV
            (repeat' (first | (with_reducible refine callS.eq (ih m _ _ _ (by omega)) ?_) | simp (maxSteps := 2000000) only [↓ S2, S2, vIte, ↓reduceIte, Int.reduceNe, Nat.reduceEqDiff, reduceCtorEq, Nat.reduceLeDiff, Nat.reduceAdd, Nat.reduceLT, h5, hc] | simp only [brGen] | simp +contextual (disch := omega) only [Z2] | (with_reducible intro h) | (with_reducible refine And.intro (by omega) ?_) | (with_reducible refine exP (by omega) ?_) | (with_reducible apply And.intro)))
            all_goals try (exfalso; omega)
            · rw [if_pos (by assumption)] at hV; rw [← hV]
            · rw [if_neg (by assumption)] at hV
              exact nx ⟨(k + 1, walkE g t f m i ((k : Int) + 1) R.right[k]), by omega, by dsimp only; omega, by dsimp only; omega, hV⟩ (by simp; omega) (by simp [E2]) rfl
          · rw [if_pos (by simpa using hc)] at hV
            (repeat' (first | (with_reducible refine callS.eq (ih _ _ _ _ (by omega)) ?_) | simp (maxSteps := 2000000) only [↓ S2, S2, vIte, ↓reduceIte, Int.reduceNe, Nat.reduceEqDiff, reduceCtorEq, Nat.reduceLeDiff, Nat.reduceAdd, Nat.reduceLT, h5, hc] | simp only [brGen] | simp +contextual (disch := omega) only [Z2] | (with_reducible intro h) | (with_reducible refine And.intro (by omega) ?_) | (with_reducible refine exP (by omega) ?_) | (with_reducible apply And.intro)))
            all_goals first | (rw [← hV]; done) | (exfalso; omega)
        · rw [kidsW_end (by omega)] at hV
          ((try simp (maxSteps := 2000000) only [↓ S2, S2, vIte, ↓reduceIte, Int.reduceNe, Nat.reduceEqDiff, reduceCtorEq, Nat.reduceLeDiff, Nat.reduceAdd, Nat.reduceLT]); (repeat (simp only [brGen]; try simp (maxSteps := 2000000) only [↓ S2, S2, vIte, ↓reduceIte, Int.reduceNe, Nat.reduceEqDiff, reduceCtorEq, Nat.reduceLeDiff, Nat.reduceAdd, Nat.reduceLT])); (try simp +contextual (disch := omega) only [Z2]); (repeat' (first | (with_reducible intro h) | (with_reducible refine And.intro (by omega) ?_) | (with_reducible refine exP (by omega) ?_) | (with_reducible apply And.intro))))
          all_goals first | (rw [← hV]; done) | (exfalso; omega)
    · rw [if_neg hv]
      rw [fitV_iff] at hv
      (repeat' (first | (with_reducible refine callS.eq (w70 _ _ hg) ?_) | (with_reducible refine callS.eq (w93 _ _ _) ?_) | simp (maxSteps := 2000000) only [↓ S2, S2, vIte, ↓reduceIte, Int.reduceNe, Nat.reduceEqDiff, reduceCtorEq, Nat.reduceLeDiff, Nat.reduceAdd, Nat.reduceLT] | simp only [brGen] | simp +contextual (disch := omega) only [Z2] | (with_reducible intro h) | (with_reducible refine And.intro (by omega) ?_) | (with_reducible refine exP (by omega) ?_) | (with_reducible apply And.intro)))
      all_goals try rfl
      all_goals (exfalso; apply hv; simp_all only [okV1, decide_eq_true_eq, decide_eq_false_iff_not, true_and, and_true, or_true, true_or, not_true_eq_false, not_false_eq_true]; done)
end Go.Proofs.YtfkngocbihkdfaaGreat

namespace Go.Proofs.YtfkngocbihkdfaaGreat
open Go.Gh
set_option maxRecDepth 20000
set_option linter.unusedSimpArgs false
set_option linter.unusedVariables false
theorem w152 (l : List Int) (x : Int) : Pure Tryz.prog 152 [IS l, I x] (· = B (hasI l x)) := by
  refine GCalls.lenA fun hl => ?_
  have hlen := hl.1.1
  simp only [List.length_map, maxL] at hlen
  refine gstart mxd i152 rfl (by simp) ?_; simp (maxSteps := 2000000) only [↓ S2, S2, vIte, ↓reduceIte, Int.reduceNe, Nat.reduceEqDiff, reduceCtorEq, Nat.reduceLeDiff, Nat.reduceAdd, Nat.reduceLT]
  refine wloop mxd (ι := { i : Nat // i ≤ l.length ∧ ∀ y ∈ l.take i, decide (y = x) = false }) (fun i => [(0, IS l), (1, I x), (5, I i.1)]) (fun _ => []) (fun i => l.length - i.1) ⟨0, by simp⟩ (by simp [E2]) rfl ?_
  rintro ⟨i, hi, hn⟩
  ((try simp (maxSteps := 2000000) only [↓ S2, S2, vIte, ↓reduceIte, Int.reduceNe, Nat.reduceEqDiff, reduceCtorEq, Nat.reduceLeDiff, Nat.reduceAdd, Nat.reduceLT]); (repeat (simp only [brGen]; try simp (maxSteps := 2000000) only [↓ S2, S2, vIte, ↓reduceIte, Int.reduceNe, Nat.reduceEqDiff, reduceCtorEq, Nat.reduceLeDiff, Nat.reduceAdd, Nat.reduceLT])); (try simp +contextual (disch := omega) only [Z2]); (repeat' (first | (with_reducible intro h) | (with_reducible refine And.intro (by omega) ?_) | (with_reducible refine exP (by omega) ?_) | (with_reducible apply And.intro))))
  · rw [hasI_hit (by assumption) h]
  · exact nx ⟨i + 1, by omega, take_step (by assumption) (by simpa using h) hn⟩ (by simp; omega) (by simp [E2]) rfl
  · have : i = l.length := by omega
    subst this
    rw [List.take_of_length_le (Nat.le_refl _)] at hn
    rw [hasI_none hn]
theorem w142 (t : List Nod) (hl : t.length ≤ 1048576) : Pure Tryz.prog 142 [Tr t] (· = B (idsV t && decide (1 ≤ t.length ∧ t.length ≤ 16))) := by
  refine Pure.bor ?_
  refine gstart mxd i142 rfl (by simp) ?_; simp (maxSteps := 2000000) only [↓ S2, S2, vIte, ↓reduceIte, Int.reduceNe, Nat.reduceEqDiff, reduceCtorEq, Nat.reduceLeDiff, Nat.reduceAdd, Nat.reduceLT]
  ((try simp (maxSteps := 2000000) only [↓ S2, S2, vIte, ↓reduceIte, Int.reduceNe, Nat.reduceEqDiff, reduceCtorEq, Nat.reduceLeDiff, Nat.reduceAdd, Nat.reduceLT]); (repeat (simp only [brGen]; try simp (maxSteps := 2000000) only [↓ S2, S2, vIte, ↓reduceIte, Int.reduceNe, Nat.reduceEqDiff, reduceCtorEq, Nat.reduceLeDiff, Nat.reduceAdd, Nat.reduceLT])); (try simp +contextual (disch := omega) only [Z2]); (repeat' (first | (with_reducible intro h) | (with_reducible refine And.intro (by omega) ?_) | (with_reducible refine exP (by omega) ?_) | (with_reducible apply And.intro))))
  rename_i r
  refine ploop mxd (ι := { x : Nat × Nat // x.2 ≤ t.length ∧ ∀ j, j < x.2 → gid t j = true }) (fun x => [(1, .rop 1 (Tr t)), (3, .own x.1.1 1 0 x.1.2), (4, I x.1.2)]) (fun x => [(x.1.1, 1, ((t.take x.1.2).map (·.id)).map I)]) (fun x => t.length - x.1.2) ⟨(r, 0), by simp⟩ (by simp [E2]) (by simp [subH, hget, names]) ?_
  rintro ⟨⟨r, i⟩, hi, hn⟩ -
  dsimp only at hi hn ⊢
  rcases Nat.lt_or_ge i t.length with hlt | hge
  · (repeat' (first | (with_reducible refine callS.eq (w61 _ _ _) ?_) | simp (maxSteps := 2000000) only [↓ S2, S2, vIte, ↓reduceIte, Int.reduceNe, Nat.reduceEqDiff, reduceCtorEq, Nat.reduceLeDiff, Nat.reduceAdd, Nat.reduceLT] | simp only [brGen] | simp +contextual (disch := omega) only [Z2] | (with_reducible intro h) | (with_reducible refine And.intro (by omega) ?_) | (with_reducible refine exP (by omega) ?_) | (with_reducible apply And.intro)))
    all_goals try (exfalso; omega)
    · refine callS.borA (w152 ((t.take i).map (·.id)) t[i].id) (.cons (bor_IS hget_new (by simp; omega)) (.cons .refl .nil)) rfl ?_
      ((try simp (maxSteps := 2000000) only [↓ S2, S2, vIte, ↓reduceIte, Int.reduceNe, Nat.reduceEqDiff, reduceCtorEq, Nat.reduceLeDiff, Nat.reduceAdd, Nat.reduceLT]); (repeat (simp only [brGen]; try simp (maxSteps := 2000000) only [↓ S2, S2, vIte, ↓reduceIte, Int.reduceNe, Nat.reduceEqDiff, reduceCtorEq, Nat.reduceLeDiff, Nat.reduceAdd, Nat.reduceLT])); (try simp +contextual (disch := omega) only [Z2]); (repeat' (first | (with_reducible intro h) | (with_reducible refine And.intro (by omega) ?_) | (with_reducible refine exP (by omega) ?_) | (with_reducible apply And.intro))))
      · rw [hasI_map] at h
        rw [idsV_bad hlt (gid_f2 hlt h)]
        exact .refl
      · rename_i q2
        have h2 := neH_of h
        (replace h2 := h2; simp only [neH_cons, neH_nil, neA_cons, neA_nil, and_true, true_and] at h2)
        ((try simp (maxSteps := 2000000) only [↓ S2, S2, vIte, ↓reduceIte, Int.reduceNe, Nat.reduceEqDiff, reduceCtorEq, Nat.reduceLeDiff, Nat.reduceAdd, Nat.reduceLT, hget_c, hset_c, hdel_c, h2, t_ldf]); (repeat (simp only [brGen]; try simp (maxSteps := 2000000) only [↓ S2, S2, vIte, ↓reduceIte, Int.reduceNe, Nat.reduceEqDiff, reduceCtorEq, Nat.reduceLeDiff, Nat.reduceAdd, Nat.reduceLT, hget_c, hset_c, hdel_c, h2, t_ldf])); (try simp +contextual (disch := omega) only [Z2]); (repeat' (first | (with_reducible intro h) | (with_reducible refine And.intro (by omega) ?_) | (with_reducible refine exP (by omega) ?_) | (with_reducible apply And.intro))))
        · simp; omega
        rename_i hh _ _ _ q3
        have h3 := neH_of h
        (replace h3 := h3; simp only [neH_cons, neH_nil, neA_cons, neA_nil, and_true, true_and] at h3)
        rw [takeApp2 I (·.id) t i hlt]
        refine px ⟨(q3, i + 1), by omega, fun j hj => ?_⟩ (by simp; omega) (by simp [E2]) (by simp [subH, hget, names, h3])
        rcases Nat.lt_or_ge j i with hji | hji
        · exact hn j hji
        · have : j = i := by omega
          subst this
          exact gid_t hlt (by assumption) (by rw [← hasI_map]; assumption)
    · rw [idsV_bad hlt (gid_f1 hlt (by assumption))]
      exact .refl
  · have : i = t.length := by omega
    subst this
    (repeat' (first | (with_reducible refine callS.eq (w61 _ _ _) ?_) | simp (maxSteps := 2000000) only [↓ S2, S2, vIte, ↓reduceIte, Int.reduceNe, Nat.reduceEqDiff, reduceCtorEq, Nat.reduceLeDiff, Nat.reduceAdd, Nat.reduceLT] | simp only [brGen] | simp +contextual (disch := omega) only [Z2] | (with_reducible intro h) | (with_reducible refine And.intro (by omega) ?_) | (with_reducible refine exP (by omega) ?_) | (with_reducible apply And.intro)))
    have e : B (decide (1 ≤ (t.length : Int) ∧ (t.length : Int) ≤ 16)) = B (idsV t && decide (1 ≤ t.length ∧ t.length ≤ 16)) := by rw [idsV_ok hn, Bool.true_and]; exact bEq (by omega)
    rw [← e]
    exact .refl
theorem w262 (x y : Nod) : Pure Tryz.prog 262 [Nd x, .rop 6 (Nd y)] (· = B (decide (x.id = y.id))) := by
  refine gstart mxd i262 rfl (by simp) ?_; simp (maxSteps := 2000000) only [↓ S2, S2, vIte, ↓reduceIte, Int.reduceNe, Nat.reduceEqDiff, reduceCtorEq, Nat.reduceLeDiff, Nat.reduceAdd, Nat.reduceLT]
  try ((try simp (maxSteps := 2000000) only [↓ S2, S2, vIte, ↓reduceIte, Int.reduceNe, Nat.reduceEqDiff, reduceCtorEq, Nat.reduceLeDiff, Nat.reduceAdd, Nat.reduceLT]); (repeat (simp only [brGen]; try simp (maxSteps := 2000000) only [↓ S2, S2, vIte, ↓reduceIte, Int.reduceNe, Nat.reduceEqDiff, reduceCtorEq, Nat.reduceLeDiff, Nat.reduceAdd, Nat.reduceLT])); (try simp +contextual (disch := omega) only [Z2]); (repeat' (first | (with_reducible intro h) | (with_reducible refine And.intro (by omega) ?_) | (with_reducible refine exP (by omega) ?_) | (with_reducible apply And.intro))))
theorem w261 (t : List Nod) (f : Nat) (cs : List GV) (p : Nod → Bool) (hp : ∀ x ∈ t, Pure Tryz.prog f (Nd x :: cs) (· = B (p x))) :
    Pure Tryz.prog 261 [NdS t, .clo f cs] (· = B (t.any p)) := by
  refine gstart mxd i261 rfl (by simp) ?_; simp (maxSteps := 2000000) only [↓ S2, S2, vIte, ↓reduceIte, Int.reduceNe, Nat.reduceEqDiff, reduceCtorEq, Nat.reduceLeDiff, Nat.reduceAdd, Nat.reduceLT]
  refine callS.eq (w129 t f cs p hp) ?_
  ((try simp (maxSteps := 2000000) only [↓ S2, S2, vIte, ↓reduceIte, Int.reduceNe, Nat.reduceEqDiff, reduceCtorEq, Nat.reduceLeDiff, Nat.reduceAdd, Nat.reduceLT]); (repeat (simp only [brGen]; try simp (maxSteps := 2000000) only [↓ S2, S2, vIte, ↓reduceIte, Int.reduceNe, Nat.reduceEqDiff, reduceCtorEq, Nat.reduceLeDiff, Nat.reduceAdd, Nat.reduceLT])); (try simp +contextual (disch := omega) only [Z2]); (repeat' (first | (with_reducible intro h) | (with_reducible refine And.intro (by omega) ?_) | (with_reducible refine exP (by omega) ?_) | (with_reducible apply And.intro))))
  rw [← any_ix]
theorem w205 (g : Gram) (t : List Nod) (s : ByteArray) (hg : smGr g) (hl : t.length ≤ 1048576) (hk : ∀ x ∈ t, x.kids.length ≤ 1048576) : Pure Tryz.prog 205 [Gr g, Tr t, T s] (· = B (treeOf g t s)) := by
  refine gstart mxd i205 rfl (by simp) ?_; simp (maxSteps := 2000000) only [↓ S2, S2, vIte, ↓reduceIte, Int.reduceNe, Nat.reduceEqDiff, reduceCtorEq, Nat.reduceLeDiff, Nat.reduceAdd, Nat.reduceLT]
  refine callS.eq (w93 _ _ _) ?_
  ((try simp (maxSteps := 2000000) only [↓ S2, S2, vIte, ↓reduceIte, Int.reduceNe, Nat.reduceEqDiff, reduceCtorEq, Nat.reduceLeDiff, Nat.reduceAdd, Nat.reduceLT]); (repeat (simp only [brGen]; try simp (maxSteps := 2000000) only [↓ S2, S2, vIte, ↓reduceIte, Int.reduceNe, Nat.reduceEqDiff, reduceCtorEq, Nat.reduceLeDiff, Nat.reduceAdd, Nat.reduceLT])); (try simp +contextual (disch := omega) only [Z2]); (repeat' (first | (with_reducible intro h) | (with_reducible refine And.intro (by omega) ?_) | (with_reducible refine exP (by omega) ?_) | (with_reducible apply And.intro))))
  rotate_left
  · simp only [treeOf]; rw [decide_eq_false (by omega)]; rfl
  refine wloop mxd (ι := { i : Nat // i ≤ t.length ∧ ∀ j, j < i → gid t j = true }) (fun i => [(2, T s), (3, .rop 2 (Gr g)), (4, .rop 1 (Tr t)), (15, NdS t), (16, I t.length), (17, I i.1)]) (fun _ => []) (fun i => t.length - i.1) ⟨0, by simp⟩ (by simp [E2]) rfl ?_
  rintro ⟨i, hi, hn⟩
  rcases Nat.lt_or_ge i t.length with hlt | hge
  · (repeat' (first | (with_reducible refine callS.eq (w93 _ _ _) ?_) | simp (maxSteps := 2000000) only [↓ S2, S2, vIte, ↓reduceIte, Int.reduceNe, Nat.reduceEqDiff, reduceCtorEq, Nat.reduceLeDiff, Nat.reduceAdd, Nat.reduceLT] | simp only [brGen] | simp +contextual (disch := omega) only [Z2] | (with_reducible intro h) | (with_reducible refine And.intro (by omega) ?_) | (with_reducible refine exP (by omega) ?_) | (with_reducible apply And.intro)))
    all_goals try (exfalso; omega)
    · rw [show List.drop (Int.toNat 0) (List.take i (List.map Nd t)) = (t.take i).map Nd from by simp [List.map_take]]
      refine callS.eq (w261 (t.take i) _ _ (fun y => decide (y.id = t[i].id)) fun x _ => w262 x t[i]) ?_
      ((try simp (maxSteps := 2000000) only [↓ S2, S2, vIte, ↓reduceIte, Int.reduceNe, Nat.reduceEqDiff, reduceCtorEq, Nat.reduceLeDiff, Nat.reduceAdd, Nat.reduceLT]); (repeat (simp only [brGen]; try simp (maxSteps := 2000000) only [↓ S2, S2, vIte, ↓reduceIte, Int.reduceNe, Nat.reduceEqDiff, reduceCtorEq, Nat.reduceLeDiff, Nat.reduceAdd, Nat.reduceLT])); (try simp +contextual (disch := omega) only [Z2]); (repeat' (first | (with_reducible intro h) | (with_reducible refine And.intro (by omega) ?_) | (with_reducible refine exP (by omega) ?_) | (with_reducible apply And.intro))))
      · rw [treeOf_bad (idsV_bad hlt (gid_f2 hlt h))]
      · refine nx ⟨i + 1, by omega, fun j hj => ?_⟩ (by simp; omega) (by simp [E2]) rfl
        rcases Nat.lt_or_ge j i with hji | hji
        · exact hn j hji
        · have : j = i := by omega
          subst this
          exact gid_t hlt (by assumption) h
    · rw [treeOf_bad (idsV_bad hlt (gid_f1 hlt (by assumption)))]
  · have : i = t.length := by omega
    subst this
    have hw := w263 g t hg hl hk t.length 0 (-1) 0 s (by omega)
    simp only [Int.natCast_zero] at hw
    (repeat' (first | (with_reducible refine callS.eq (hw) ?_) | simp (maxSteps := 2000000) only [↓ S2, S2, vIte, ↓reduceIte, Int.reduceNe, Nat.reduceEqDiff, reduceCtorEq, Nat.reduceLeDiff, Nat.reduceAdd, Nat.reduceLT] | simp only [brGen] | simp +contextual (disch := omega) only [Z2] | (with_reducible intro h) | (with_reducible refine And.intro (by omega) ?_) | (with_reducible refine exP (by omega) ?_) | (with_reducible apply And.intro)))
    simp only [treeOf, idsV_ok hn, Bool.true_and]
    rw [decide_eq_true (show 1 ≤ t.length ∧ t.length ≤ 16 by omega), Bool.true_and]
theorem w81 (g : Gram) (t : List Nod) (s : ByteArray) (hg : smGr g) (hl : t.length ≤ 1048576) (hk : ∀ x ∈ t, x.kids.length ≤ 1048576) : Pure Tryz.prog 81 [Gr g, Tr t, T s] (· = B (treeOf g t s)) := by
  have hw := w143 g t hg hl hk t.length 0 (-1) 0 s (by omega)
  simp only [Int.natCast_zero] at hw
  refine gstart mxd i81 rfl (by simp) ?_; simp (maxSteps := 2000000) only [↓ S2, S2, vIte, ↓reduceIte, Int.reduceNe, Nat.reduceEqDiff, reduceCtorEq, Nat.reduceLeDiff, Nat.reduceAdd, Nat.reduceLT]
  (repeat' (first | (with_reducible refine callS.eq (w142 t hl) ?_) | (with_reducible refine callS.eq (hw) ?_) | simp (maxSteps := 2000000) only [↓ S2, S2, vIte, ↓reduceIte, Int.reduceNe, Nat.reduceEqDiff, reduceCtorEq, Nat.reduceLeDiff, Nat.reduceAdd, Nat.reduceLT] | simp only [brGen] | simp +contextual (disch := omega) only [Z2] | (with_reducible intro h) | (with_reducible refine And.intro (by omega) ?_) | (with_reducible refine exP (by omega) ?_) | (with_reducible apply And.intro)))
  all_goals first | (simp_all [treeOf]; done) | (simp_all [treeOf]; intros; omega)
end Go.Proofs.YtfkngocbihkdfaaGreat

namespace Go.Proofs.YtfkngocbihkdfaaGreat
open Go.Gh
set_option maxRecDepth 20000
set_option linter.unusedSimpArgs false
set_option linter.unusedVariables false
theorem w86 (k : Int) (hk : k < 9223372036854775807) : Pure Tryz.prog 86 [I k] (· = T (mtext k)) := by
  refine gstart mxd i86 rfl (by simp) ?_; simp (maxSteps := 2000000) only [↓ S2, S2, vIte, ↓reduceIte, Int.reduceNe, Nat.reduceEqDiff, reduceCtorEq, Nat.reduceLeDiff, Nat.reduceAdd, Nat.reduceLT]
  ((try simp (maxSteps := 2000000) only [↓ S2, S2, vIte, ↓reduceIte, Int.reduceNe, Nat.reduceEqDiff, reduceCtorEq, Nat.reduceLeDiff, Nat.reduceAdd, Nat.reduceLT]); (repeat (simp only [brGen]; try simp (maxSteps := 2000000) only [↓ S2, S2, vIte, ↓reduceIte, Int.reduceNe, Nat.reduceEqDiff, reduceCtorEq, Nat.reduceLeDiff, Nat.reduceAdd, Nat.reduceLT])); (try simp +contextual (disch := omega) only [Z2]); (repeat' (first | (with_reducible intro h) | (with_reducible refine And.intro (by omega) ?_) | (with_reducible refine exP (by omega) ?_) | (with_reducible apply And.intro))))
  · simp [mtext, h]
  have hR : ∃ R, dig k.toNat k [] = R := ⟨_, rfl⟩
  obtain ⟨R, hR⟩ := hR
  refine wloop mxd (ι := { x : Nat × Int × List UInt8 // dig x.1 x.2.1 x.2.2 = R ∧ x.2.1 ≤ x.1 ∧ 0 ≤ x.2.1 ∧ x.2.1 + x.2.2.length ≤ k }) (fun x => [(0, I x.1.2.1), (3, T ⟨x.1.2.2.toArray⟩)]) (fun _ => []) (fun x => x.1.1) ⟨(k.toNat, k, []), hR, by show k ≤ (k.toNat : Int); omega, by show 0 ≤ k; omega, by simp⟩ (by simp [E2]) rfl ?_
  rintro ⟨⟨f, j, acc⟩, h1, h2, h3, h4⟩
  dsimp only at h1 h2 h3 h4
  have e : j.tdiv 10 = j / 10 := Int.tdiv_eq_ediv_of_nonneg h3
  ((try simp (maxSteps := 2000000) only [↓ S2, S2, vIte, ↓reduceIte, Int.reduceNe, Nat.reduceEqDiff, reduceCtorEq, Nat.reduceLeDiff, Nat.reduceAdd, Nat.reduceLT]); (repeat (simp only [brGen]; try simp (maxSteps := 2000000) only [↓ S2, S2, vIte, ↓reduceIte, Int.reduceNe, Nat.reduceEqDiff, reduceCtorEq, Nat.reduceLeDiff, Nat.reduceAdd, Nat.reduceLT])); (try simp +contextual (disch := omega) only [Z2]); (repeat' (first | (with_reducible intro h) | (with_reducible refine And.intro (by omega) ?_) | (with_reducible refine exP (by omega) ?_) | (with_reducible apply And.intro))))
  · show ([_] : List UInt8).length + acc.toArray.toList.length ≤ _
    simp; omega
  · rename_i hj r
    obtain ⟨f', rfl⟩ : ∃ f', f = f' + 1 := ⟨f - 1, by omega⟩
    rw [dig, if_pos hj] at h1
    refine nxF ⟨(f', j.tdiv 10, dgt j :: acc), h1, ?_, ?_, ?_⟩ (by simp) (FE.drop hget_new) ?_ (by rw [hdel_new])
    · show j.tdiv 10 ≤ _; omega
    · show 0 ≤ j.tdiv 10; omega
    · show j.tdiv 10 + ((dgt j :: acc).length : Int) ≤ k; simp; omega
    · simp [E2, dgt, mkS]
      rfl
  · show ([_] : List UInt8).length + acc.toArray.toList.length ≤ _
    simp; omega
  · rw [dig_end _ _ h] at h1
    rw [mtext, if_neg (by omega), hR, h1]
    simp [mkS, chars]
theorem w45 (r n : Nat) (k : Int) (es : List Int) (H : GH) (hr : hget H r = some (1, es.map I)) (hn : es.length = n) (hk : 0 ≤ k) (hb : k + n < 9223372036854775807) :
    GCalls Tryz.prog 45 [.own r 1 0 n, I k] H (fun g H' => g = I (k + n) ∧ H' = hset H r ((upFrom k n).map I)) := by
  refine gstart mxd i45 rfl (by simp) ?_; simp (maxSteps := 2000000) only [↓ S2, S2, vIte, ↓reduceIte, Int.reduceNe, Nat.reduceEqDiff, reduceCtorEq, Nat.reduceLeDiff, Nat.reduceAdd, Nat.reduceLT]
  refine wloop mxd (ι := { i : Nat // i ≤ n }) (fun i => [(0, .own r 1 0 n), (1, I (k + i.1)), (5, I i.1)]) (fun i => hset H r ((upFrom k i.1 ++ es.drop i.1).map I)) (fun i => n - i.1) ⟨0, by omega⟩ (by simp [E2]) (by simp [upFrom]; rw [hset_self hr]) ?_
  rintro ⟨i, hi⟩
  ((try simp (maxSteps := 2000000) only [↓ S2, S2, vIte, ↓reduceIte, Int.reduceNe, Nat.reduceEqDiff, reduceCtorEq, Nat.reduceLeDiff, Nat.reduceAdd, Nat.reduceLT, hget_set hr, hset_set]); (repeat (simp only [brGen]; try simp (maxSteps := 2000000) only [↓ S2, S2, vIte, ↓reduceIte, Int.reduceNe, Nat.reduceEqDiff, reduceCtorEq, Nat.reduceLeDiff, Nat.reduceAdd, Nat.reduceLT, hget_set hr, hset_set])); (try simp +contextual (disch := omega) only [Z2]); (repeat' (first | (with_reducible intro h) | (with_reducible refine And.intro (by omega) ?_) | (with_reducible refine exP (by omega) ?_) | (with_reducible apply And.intro))))
  · refine exP (by simp [upFrom_len]; omega) (nx ⟨i + 1, by omega⟩ (by simp; omega) (by simp [E2]; omega) ?_)
    have e : (upFrom k i ++ es.drop i).set i (k + i) = upFrom k (i + 1) ++ es.drop (i + 1) := by
      rw [upFrom_snoc, List.set_append_right _ _ (by simp [upFrom_len])]
      simp [upFrom_len]
      rw [List.drop_eq_getElem_cons (by omega)]
      rfl
    rw [e]
  · have : i = n := by omega
    rw [this]
  · have : i = n := by omega
    subst this
    rw [List.drop_of_length_le (by omega), List.append_nil]
theorem o125 (x : Nod) (hx : x.kids.length ≤ 1048576) (H : GH) : GCalls Tryz.prog 125 [Nd x] H (fun g H' => ∃ r, g = .agg [I x.id, I x.parent, I x.place, I x.lit, T x.rule, .own r 1 0 x.kids.length] ∧ H' = (r, 1, x.kids.map I) :: H) := by
  have h0 : GCalls Tryz.prog 125 [Nd x] H (fun g H' => ∃ r r0 e, r ≠ r0 ∧ g = .agg [I x.id, I x.parent, I x.place, I x.lit, T x.rule, .own r 1 0 x.kids.length] ∧ H' = (r, 1, x.kids.map I) :: (r0, 6, e) :: H) := by
    refine gstart mxd i125 rfl (by simp) ?_; simp (maxSteps := 2000000) only [↓ S2, S2, vIte, ↓reduceIte, Int.reduceNe, Nat.reduceEqDiff, reduceCtorEq, Nat.reduceLeDiff, Nat.reduceAdd, Nat.reduceLT]
    intro r0 hr0
    refine callS.of (o54 _ hx _) ?_
    rintro g H' ⟨r, rfl, rfl⟩ hn
    have hne : r ≠ r0 := ne_of_new hn hget_new
    ((try simp (maxSteps := 2000000) only [↓ S2, S2, vIte, ↓reduceIte, Int.reduceNe, Nat.reduceEqDiff, reduceCtorEq, Nat.reduceLeDiff, Nat.reduceAdd, Nat.reduceLT, hget_old hne, hset_old hne]); (repeat (simp only [brGen]; try simp (maxSteps := 2000000) only [↓ S2, S2, vIte, ↓reduceIte, Int.reduceNe, Nat.reduceEqDiff, reduceCtorEq, Nat.reduceLeDiff, Nat.reduceAdd, Nat.reduceLT, hget_old hne, hset_old hne])); (try simp +contextual (disch := omega) only [Z2]); (repeat' (first | (with_reducible intro h) | (with_reducible refine And.intro (by omega) ?_) | (with_reducible refine exP (by omega) ?_) | (with_reducible apply And.intro))))
    exact ⟨r, r0, _, hne, rfl, rfl⟩
  refine h0.fr ?_
  rintro g H' ⟨r, r0, e, hne, rfl, rfl⟩
  refine ⟨_, _, FR.drop (r := r0) (by rw [hget_old hne, hget_new]), r, rfl, by rw [hdel_old hne, hdel_new]⟩
theorem o66 (xs : List Nod) (hl : xs.length ≤ 1048576) (hx : ∀ x ∈ xs, x.kids.length ≤ 1048576) (H : GH) : GCalls Tryz.prog 66 [NdS xs] H (fun g H' => ∃ r, g = .own r 6 0 xs.length ∧ H' = (r, 6, xs.map NdO) :: H) := by
  refine gstart mxd i66 rfl (by simp) ?_; simp (maxSteps := 2000000) only [↓ S2, S2, vIte, ↓reduceIte, Int.reduceNe, Nat.reduceEqDiff, reduceCtorEq, Nat.reduceLeDiff, Nat.reduceAdd, Nat.reduceLT]
  refine ⟨by omega, by omega, by omega, by omega, fun r hr => ?_⟩
  refine wloop mxd (ι := { i : Nat // i ≤ xs.length }) (fun i => [(0, NdS xs), (3, .own r 6 0 xs.length), (4, I i.1)]) (fun i => (r, 6, (xs.take i.1).map NdO ++ List.replicate (xs.length - i.1) (.agg [I 0, I 0, I 0, I 0, T (ByteArray.mk #[]), .val (.slice none 0 0)])) :: H) (fun i => xs.length - i.1) ⟨0, by simp⟩ (by simp [E2]) (by simp) ?_
  rintro ⟨i, hi⟩
  ((try simp (maxSteps := 2000000) only [↓ S2, S2, vIte, ↓reduceIte, Int.reduceNe, Nat.reduceEqDiff, reduceCtorEq, Nat.reduceLeDiff, Nat.reduceAdd, Nat.reduceLT]); (repeat (simp only [brGen]; try simp (maxSteps := 2000000) only [↓ S2, S2, vIte, ↓reduceIte, Int.reduceNe, Nat.reduceEqDiff, reduceCtorEq, Nat.reduceLeDiff, Nat.reduceAdd, Nat.reduceLT])); (try simp +contextual (disch := omega) only [Z2]); (repeat' (first | (with_reducible intro h) | (with_reducible refine And.intro (by omega) ?_) | (with_reducible refine exP (by omega) ?_) | (with_reducible apply And.intro))))
  · refine callS.of (o125 xs[i] (hx _ (List.getElem_mem _)) _) ?_
    rintro g H' ⟨r1, rfl, rfl⟩ hn
    have hne : r1 ≠ r := ne_of_new hn hget_new
    ((try simp (maxSteps := 2000000) only [↓ S2, S2, vIte, ↓reduceIte, Int.reduceNe, Nat.reduceEqDiff, reduceCtorEq, Nat.reduceLeDiff, Nat.reduceAdd, Nat.reduceLT, hget_old hne, hset_old hne, stw]); (repeat (simp only [brGen]; try simp (maxSteps := 2000000) only [↓ S2, S2, vIte, ↓reduceIte, Int.reduceNe, Nat.reduceEqDiff, reduceCtorEq, Nat.reduceLeDiff, Nat.reduceAdd, Nat.reduceLT, hget_old hne, hset_old hne, stw])); (try simp +contextual (disch := omega) only [Z2]); (repeat' (first | (with_reducible intro h) | (with_reducible refine And.intro (by omega) ?_) | (with_reducible refine exP (by omega) ?_) | (with_reducible apply And.intro))))
    refine exP (by simp; omega) (nxF ⟨i + 1, by omega⟩ (by simp; omega) (FE.close2 (j := 5) hne (by simp; omega) rfl (by simp)) (by simp [E2]) ?_)
    have e := fill_set xs NdO (.agg [I 0, I 0, I 0, I 0, T (ByteArray.mk #[]), .val (.slice none 0 0)]) i h
    rw [← e]
    rfl
  · have : i = xs.length := by omega
    subst this
    exact ⟨r, rfl, by simp⟩
theorem o18 (t : List Nod) (hl : t.length ≤ 1048576) (hx : ∀ x ∈ t, x.kids.length ≤ 1048576) (H : GH) : GCalls Tryz.prog 18 [Tr t] H (fun g H' => ∃ r, g = .agg [.own r 6 0 t.length] ∧ H' = (r, 6, t.map NdO) :: H) := by
  have h0 : GCalls Tryz.prog 18 [Tr t] H (fun g H' => ∃ r r0 e, r ≠ r0 ∧ g = .agg [.own r 6 0 t.length] ∧ H' = (r, 6, t.map NdO) :: (r0, 1, e) :: H) := by
    refine gstart mxd i18 rfl (by simp) ?_; simp (maxSteps := 2000000) only [↓ S2, S2, vIte, ↓reduceIte, Int.reduceNe, Nat.reduceEqDiff, reduceCtorEq, Nat.reduceLeDiff, Nat.reduceAdd, Nat.reduceLT]
    intro r0 hr0
    refine callS.of (o66 _ hl hx _) ?_
    rintro g H' ⟨r, rfl, rfl⟩ hn
    have hne : r ≠ r0 := ne_of_new hn hget_new
    ((try simp (maxSteps := 2000000) only [↓ S2, S2, vIte, ↓reduceIte, Int.reduceNe, Nat.reduceEqDiff, reduceCtorEq, Nat.reduceLeDiff, Nat.reduceAdd, Nat.reduceLT, hget_old hne, hset_old hne]); (repeat (simp only [brGen]; try simp (maxSteps := 2000000) only [↓ S2, S2, vIte, ↓reduceIte, Int.reduceNe, Nat.reduceEqDiff, reduceCtorEq, Nat.reduceLeDiff, Nat.reduceAdd, Nat.reduceLT, hget_old hne, hset_old hne])); (try simp +contextual (disch := omega) only [Z2]); (repeat' (first | (with_reducible intro h) | (with_reducible refine And.intro (by omega) ?_) | (with_reducible refine exP (by omega) ?_) | (with_reducible apply And.intro))))
    exact ⟨r, r0, _, hne, rfl, rfl⟩
  refine h0.fr ?_
  rintro g H' ⟨r, r0, e, hne, rfl, rfl⟩
  refine ⟨_, _, FR.drop (r := r0) (by rw [hget_old hne, hget_new]), r, rfl, by rw [hdel_old hne, hdel_new]⟩
theorem w78 (r n : Nat) (k : Int) (t : List Nod) (H : GH) (hr : hget H r = some (6, t.map NdO)) (hn : t.length = n) (hk : 0 ≤ k) (hb : mkEnd k t < 9223372036854775807) :
    GCalls Tryz.prog 78 [.own r 6 0 n, I k] H (fun g H' => g = I (mkEnd k t) ∧ H' = hset H r ((mkNods k t).map NdO)) := by
  refine gstart mxd i78 rfl (by simp) ?_; simp (maxSteps := 2000000) only [↓ S2, S2, vIte, ↓reduceIte, Int.reduceNe, Nat.reduceEqDiff, reduceCtorEq, Nat.reduceLeDiff, Nat.reduceAdd, Nat.reduceLT]
  refine wloopF mxd (ι := { i : Nat // i ≤ n }) (fun i => [(0, .own r 6 0 n), (1, I (mkEnd k (t.take i.1))), (5, I i.1)]) (fun i => hset H r ((mkNods k (t.take i.1) ++ t.drop i.1).map NdO)) (fun i => n - i.1) ⟨0, by omega⟩ FE.refl (by simp [E2, mkEnd]) (by simp [mkNods]; rw [hset_self hr]) ?_
  rintro ⟨i, hi⟩ hnd
  dsimp only at hnd ⊢
  rcases Nat.lt_or_ge i n with h | h
  · have ht : i < t.length := by omega
    have hmid : i < (mkNods k (t.take i) ++ t.drop i).length := by simp [mkNods_len]; omega
    have e1 := mkEnd_step (k := k) ht
    have e2 := mkEnd_take (k := k) (t := t) (i + 1)
    have e3 := mkEnd_le k (t.take i)
    have e4 := mkEnd_len k t
    refine GW.opn (r := r) (i := i) (j := 5) (hget_set hr) (by rw [List.getElem?_map, List.getElem?_eq_getElem hmid, mid_get ht]; rfl) rfl fun r1 hn1 => ?_
    have hne : r1 ≠ r := ne_of_new hn1 (hget_set hr)
    refine gwp_ok mxd ?_
    rw [hset_set]
    ((try simp (maxSteps := 2000000) only [↓ S2, S2, vIte, ↓reduceIte, Int.reduceNe, Nat.reduceEqDiff, reduceCtorEq, Nat.reduceLeDiff, Nat.reduceAdd, Nat.reduceLT, hget_old hne, hset_old hne, hget_set hr, hset_set, List.getElem_set_self, List.set_set, List.length_set]); (repeat (simp only [brGen]; try simp (maxSteps := 2000000) only [↓ S2, S2, vIte, ↓reduceIte, Int.reduceNe, Nat.reduceEqDiff, reduceCtorEq, Nat.reduceLeDiff, Nat.reduceAdd, Nat.reduceLT, hget_old hne, hset_old hne, hget_set hr, hset_set, List.getElem_set_self, List.set_set, List.length_set])); (try simp +contextual (disch := omega) only [Z2]); (repeat' (first | (with_reducible intro h) | (with_reducible refine And.intro (by omega) ?_) | (with_reducible refine exP (by omega) ?_) | (with_reducible apply And.intro))))
    · refine callS.eq (w86 _ (by omega)) ?_
      ((try simp (maxSteps := 2000000) only [↓ S2, S2, vIte, ↓reduceIte, Int.reduceNe, Nat.reduceEqDiff, reduceCtorEq, Nat.reduceLeDiff, Nat.reduceAdd, Nat.reduceLT, hget_old hne, hset_old hne, hget_set hr, hset_set, List.getElem_set_self, List.set_set, List.length_set]); (repeat (simp only [brGen]; try simp (maxSteps := 2000000) only [↓ S2, S2, vIte, ↓reduceIte, Int.reduceNe, Nat.reduceEqDiff, reduceCtorEq, Nat.reduceLeDiff, Nat.reduceAdd, Nat.reduceLT, hget_old hne, hset_old hne, hget_set hr, hset_set, List.getElem_set_self, List.set_set, List.length_set])); (try simp +contextual (disch := omega) only [Z2]); (repeat' (first | (with_reducible intro h) | (with_reducible refine And.intro (by omega) ?_) | (with_reducible refine exP (by omega) ?_) | (with_reducible apply And.intro))))
      refine callS.of (w45 r1 _ _ t[i].kids _ hget_new rfl (by omega) (by omega)) ?_
      rintro g H' ⟨rfl, rfl⟩ hn2
      rw [hset_new] at hn2 ⊢
      ((try simp (maxSteps := 2000000) only [↓ S2, S2, vIte, ↓reduceIte, Int.reduceNe, Nat.reduceEqDiff, reduceCtorEq, Nat.reduceLeDiff, Nat.reduceAdd, Nat.reduceLT, hget_old hne, hset_old hne, hget_set hr, hset_set, List.getElem_set_self, List.set_set, List.length_set]); (repeat (simp only [brGen]; try simp (maxSteps := 2000000) only [↓ S2, S2, vIte, ↓reduceIte, Int.reduceNe, Nat.reduceEqDiff, reduceCtorEq, Nat.reduceLeDiff, Nat.reduceAdd, Nat.reduceLT, hget_old hne, hset_old hne, hget_set hr, hset_set, List.getElem_set_self, List.set_set, List.length_set])); (try simp +contextual (disch := omega) only [Z2]); (repeat' (first | (with_reducible intro h) | (with_reducible refine And.intro (by omega) ?_) | (with_reducible refine exP (by omega) ?_) | (with_reducible apply And.intro))))
      refine nxF ⟨i + 1, by omega⟩ (by simp; omega) (FE.close3 hr hne (j := 5) (by simpa using hmid) rfl (by simp [upFrom_len])) (by simp [E2]; omega) ?_
      show hset H r ((List.map NdO _).set i (NdO (mkNod (mkEnd k (t.take i)) t[i]))) = _
      rw [← List.map_set, mid_set ht]
    · omega
  · have : i = n := by omega
    subst this
    refine gwp_ok mxd ?_
    ((try simp (maxSteps := 2000000) only [↓ S2, S2, vIte, ↓reduceIte, Int.reduceNe, Nat.reduceEqDiff, reduceCtorEq, Nat.reduceLeDiff, Nat.reduceAdd, Nat.reduceLT]); (repeat (simp only [brGen]; try simp (maxSteps := 2000000) only [↓ S2, S2, vIte, ↓reduceIte, Int.reduceNe, Nat.reduceEqDiff, reduceCtorEq, Nat.reduceLeDiff, Nat.reduceAdd, Nat.reduceLT])); (try simp +contextual (disch := omega) only [Z2]); (repeat' (first | (with_reducible intro h) | (with_reducible refine And.intro (by omega) ?_) | (with_reducible refine exP (by omega) ?_) | (with_reducible apply And.intro))))
    · rw [List.take_of_length_le (by omega)]
    · rw [List.take_of_length_le (by omega), List.drop_of_length_le (by omega), List.append_nil]
theorem w25 (r n : Nat) (k : Int) (t : List Nod) (H : GH) (hr : hget H r = some (6, t.map NdO)) (hn : t.length = n) (hk : 0 ≤ k) (hb : mkEnd k t < 9223372036854775807) :
    GCalls Tryz.prog 25 [.agg [.own r 6 0 n], I k] H (fun g H' => g = I (mkEnd k t) ∧ H' = hset H r ((mkNods k t).map NdO)) := by
  refine gstart mxd i25 rfl (by simp) ?_; simp (maxSteps := 2000000) only [↓ S2, S2, vIte, ↓reduceIte, Int.reduceNe, Nat.reduceEqDiff, reduceCtorEq, Nat.reduceLeDiff, Nat.reduceAdd, Nat.reduceLT]
  refine callS.of (w78 r n k t H hr hn hk hb) ?_
  rintro g H' ⟨rfl, rfl⟩ -
  ((try simp (maxSteps := 2000000) only [↓ S2, S2, vIte, ↓reduceIte, Int.reduceNe, Nat.reduceEqDiff, reduceCtorEq, Nat.reduceLeDiff, Nat.reduceAdd, Nat.reduceLT]); (repeat (simp only [brGen]; try simp (maxSteps := 2000000) only [↓ S2, S2, vIte, ↓reduceIte, Int.reduceNe, Nat.reduceEqDiff, reduceCtorEq, Nat.reduceLeDiff, Nat.reduceAdd, Nat.reduceLT])); (try simp +contextual (disch := omega) only [Z2]); (repeat' (first | (with_reducible intro h) | (with_reducible refine And.intro (by omega) ?_) | (with_reducible refine exP (by omega) ?_) | (with_reducible apply And.intro))))
end Go.Proofs.YtfkngocbihkdfaaGreat

