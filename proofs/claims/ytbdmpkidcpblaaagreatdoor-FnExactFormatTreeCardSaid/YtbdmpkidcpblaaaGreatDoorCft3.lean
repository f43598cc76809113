/- The law FnExactFormatTree returns true whatever the input, and the input reads behind the call as before. No condition. -/
import Derived.Test.YtbdmpkidcpblaaaGreatDoorCft2
namespace Go.Proofs.YtbdmpkidcpblaaaGreatDoor
open Go.Gh
set_option maxRecDepth 20000
set_option linter.unusedSimpArgs false
set_option linter.unusedVariables false
set_option maxHeartbeats 2000000 in
theorem w30 (g : Gram) (t : List Nod) (hg : smGr g) (hl : t.length ≤ 1048576) (hk : ∀ x ∈ t, x.kids.length ≤ 1048576) : ∀ (f i : Nat) (p q : Int) (s : ByteArray), t.length ≤ i + f → Pure Tryz.prog 30 [Gr g, Tr t, I i, I p, I q, T s] (· = I (walkE g t f i p q s)) := by
  intro f
  induction f with
  | zero =>
    intro i p q s hf
    refine gstart mxd i30 rfl (by simp) ?_; simp (maxSteps := 2000000) only [↓ S2, S2, vIte, ↓reduceIte, Int.reduceNe, Nat.reduceEqDiff, reduceCtorEq, Nat.reduceLeDiff, Nat.reduceAdd, Nat.reduceLT]
    ((try simp (maxSteps := 2000000) only [↓ S2, S2, vIte, ↓reduceIte, Int.reduceNe, Nat.reduceEqDiff, reduceCtorEq, Nat.reduceLeDiff, Nat.reduceAdd, Nat.reduceLT]); (repeat (simp only [brGen]; try simp (maxSteps := 2000000) only [↓ S2, S2, vIte, ↓reduceIte, Int.reduceNe, Nat.reduceEqDiff, reduceCtorEq, Nat.reduceLeDiff, Nat.reduceAdd, Nat.reduceLT])); (try simp +contextual (disch := omega) only [Z2]); (repeat' (first | (with_reducible intro h) | (with_reducible refine And.intro (by omega) ?_) | (with_reducible refine exP (by omega) ?_) | (with_reducible apply And.intro))))
    all_goals first | rfl | (exfalso; omega)
  | succ f ih =>
    intro i p q s hf
    refine gstart mxd i30 rfl (by simp) ?_; simp (maxSteps := 2000000) only [↓ S2, S2, vIte, ↓reduceIte, Int.reduceNe, Nat.reduceEqDiff, reduceCtorEq, Nat.reduceLeDiff, Nat.reduceAdd, Nat.reduceLT]
    by_cases hi : i < t.length
    rotate_left
    · rw [walkE_out (by omega)]
      ((try simp (maxSteps := 2000000) only [↓ S2, S2, vIte, ↓reduceIte, Int.reduceNe, Nat.reduceEqDiff, reduceCtorEq, Nat.reduceLeDiff, Nat.reduceAdd, Nat.reduceLT]); (repeat (simp only [brGen]; try simp (maxSteps := 2000000) only [↓ S2, S2, vIte, ↓reduceIte, Int.reduceNe, Nat.reduceEqDiff, reduceCtorEq, Nat.reduceLeDiff, Nat.reduceAdd, Nat.reduceLT])); (try simp +contextual (disch := omega) only [Z2]); (repeat' (first | (with_reducible intro h) | (with_reducible refine And.intro (by omega) ?_) | (with_reducible refine exP (by omega) ?_) | (with_reducible apply And.intro))))
      all_goals first | rfl | (exfalso; omega)
    have hw : walkE g t (f + 1) i p q s = if fitV g t[i] p q s then kidsW (walkE g t f) i t[i].kids (fRul g.rules t[i].rule).right 0 (i + 1) else -1 := by simp only [walkE, if_pos hi, getD_lt hi]
    have hkk := hk _ (List.getElem_mem hi)
    have hr := smRu_f hg t[i].rule
    have hrr := hr.1
    rw [hw]
    by_cases hv : fitV g t[i] p q s = true
    · rw [if_pos hv]
      obtain ⟨h1, h2, h3, h4, h5, h6, h7⟩ := fitV_iff.1 hv
      subst h2 h3 h4
      clear hw hv
      have hR : ∃ R, fRul g.rules t[i].rule = R := ⟨_, rfl⟩
      obtain ⟨R, hR⟩ := hR
      rw [hR] at hr hrr h5 h7 ⊢
      have main : ∀ (Q : Exit → Env → GH → Prop), True := fun _ => trivial
      rcases h7 with h7 | h7
      · (repeat' (first | (with_reducible refine callS.eq (w32 _ _ hg) ?_) | (with_reducible refine callS.eq (w50 _ _) ?_) | simp (maxSteps := 2000000) only [↓ S2, S2, vIte, ↓reduceIte, Int.reduceNe, Nat.reduceEqDiff, reduceCtorEq, Nat.reduceLeDiff, Nat.reduceAdd, Nat.reduceLT, h1, h5, okV1, eq_true h6, h7, hR] | simp only [brGen] | simp +contextual (disch := omega) only [Z2] | (with_reducible intro h) | (with_reducible refine And.intro (by omega) ?_) | (with_reducible refine exP (by omega) ?_) | (with_reducible apply And.intro)))
        all_goals try (exfalso; omega)
        have hVV : ∃ V, kidsW (walkE g t f) i t[i].kids R.right 0 (i + 1) = V := ⟨_, rfl⟩
        obtain ⟨V, hVV⟩ := hVV
        rw [hVV]
        refine wloop mxd (ι := { x : Nat × Int // x.1 ≤ R.right.length ∧ (i : Int) < x.2 ∧ x.2 ≤ t.length ∧ kidsW (walkE g t f) i (t[i].kids.drop x.1) (R.right.drop x.1) x.1 x.2 = V }) (fun x => [(2, I i), (6, .rop 2 (Gr g)), (7, .rop 1 (Tr t)), (13, .rop 6 (Nd t[i])), (14, .rop 6 (Ru R)), (16, I x.1.2), (17, I x.1.1)]) (fun _ => []) (fun x => R.right.length - x.1.1) ⟨(0, i + 1), by simp, by simp; omega, by simp; omega, by simpa using hVV⟩ (by simp [E2, h7]) rfl ?_
        rintro ⟨⟨k, a⟩, hk1, ha1, ha2, hV⟩
        dsimp only at hk1 ha1 ha2 hV ⊢
        rcases Nat.lt_or_ge k R.right.length with hlt | hge
        · rw [kidsW_step (by omega) hlt] at hV
          by_cases hc : t[i].kids[k] = a
          · rw [if_neg (by simpa using hc)] at hV
            obtain ⟨m, rfl⟩ : ∃ m : Nat, a = m := ⟨a.toNat, by omega⟩
            have hm := walkE_ge (g := g) (t := t) f m i ((k : Int) + 1) R.right[k]
            simp only [Int.toNat_natCast] at hV
            (repeat' (first | (with_reducible refine callS.eq (ih m _ _ _ (by omega)) ?_) | simp (maxSteps := 2000000) only [↓ S2, S2, vIte, ↓reduceIte, Int.reduceNe, Nat.reduceEqDiff, reduceCtorEq, Nat.reduceLeDiff, Nat.reduceAdd, Nat.reduceLT, h5, hc] | simp only [brGen] | simp +contextual (disch := omega) only [Z2] | (with_reducible intro h) | (with_reducible refine And.intro (by omega) ?_) | (with_reducible refine exP (by omega) ?_) | (with_reducible apply And.intro)))
            all_goals try (exfalso; omega)
            · rw [if_pos (by assumption)] at hV; rw [← hV]
            · rw [if_neg (by assumption)] at hV
              exact nx ⟨(k + 1, walkE g t f m i ((k : Int) + 1) R.right[k]), by omega, by dsimp only; omega, by dsimp only; omega, hV⟩ (by simp; omega) (by simp [E2]) rfl
          · rw [if_pos (by simpa using hc)] at hV
            (repeat' (first | (with_reducible refine callS.eq (ih _ _ _ _ (by omega)) ?_) | simp (maxSteps := 2000000) only [↓ S2, S2, vIte, ↓reduceIte, Int.reduceNe, Nat.reduceEqDiff, reduceCtorEq, Nat.reduceLeDiff, Nat.reduceAdd, Nat.reduceLT, h5, hc] | simp only [brGen] | simp +contextual (disch := omega) only [Z2] | (with_reducible intro h) | (with_reducible refine And.intro (by omega) ?_) | (with_reducible refine exP (by omega) ?_) | (with_reducible apply And.intro)))
            all_goals first | (rw [← hV]; done) | (exfalso; omega)
        · rw [kidsW_end (by omega)] at hV
          ((try simp (maxSteps := 2000000) only [↓ S2, S2, vIte, ↓reduceIte, Int.reduceNe, Nat.reduceEqDiff, reduceCtorEq, Nat.reduceLeDiff, Nat.reduceAdd, Nat.reduceLT]); (repeat (simp only [brGen]; try simp (maxSteps := 2000000) only [↓ S2, S2, vIte, ↓reduceIte, Int.reduceNe, Nat.reduceEqDiff, reduceCtorEq, Nat.reduceLeDiff, Nat.reduceAdd, Nat.reduceLT])); (try simp +contextual (disch := omega) only [Z2]); (repeat' (first | (with_reducible intro h) | (with_reducible refine And.intro (by omega) ?_) | (with_reducible refine exP (by omega) ?_) | (with_reducible apply And.intro))))
          all_goals first | (rw [← hV]; done) | (exfalso; omega)
      · (repeat' (first | (with_reducible refine callS.eq (w32 _ _ hg) ?_) | (with_reducible refine callS.eq (w50 _ _) ?_) | simp (maxSteps := 2000000) only [↓ S2, S2, vIte, ↓reduceIte, Int.reduceNe, Nat.reduceEqDiff, reduceCtorEq, Nat.reduceLeDiff, Nat.reduceAdd, Nat.reduceLT, h1, h5, okV1, eq_true h6, h7.1, eq_true h7.2, hR] | simp only [brGen] | simp +contextual (disch := omega) only [Z2] | (with_reducible intro h) | (with_reducible refine And.intro (by omega) ?_) | (with_reducible refine exP (by omega) ?_) | (with_reducible apply And.intro)))
        all_goals try (exfalso; omega)
        have hVV : ∃ V, kidsW (walkE g t f) i t[i].kids R.right 0 (i + 1) = V := ⟨_, rfl⟩
        obtain ⟨V, hVV⟩ := hVV
        rw [hVV]
        refine wloop mxd (ι := { x : Nat × Int // x.1 ≤ R.right.length ∧ (i : Int) < x.2 ∧ x.2 ≤ t.length ∧ kidsW (walkE g t f) i (t[i].kids.drop x.1) (R.right.drop x.1) x.1 x.2 = V }) (fun x => [(2, I i), (6, .rop 2 (Gr g)), (7, .rop 1 (Tr t)), (13, .rop 6 (Nd t[i])), (14, .rop 6 (Ru R)), (16, I x.1.2), (17, I x.1.1)]) (fun _ => []) (fun x => R.right.length - x.1.1) ⟨(0, i + 1), by simp, by simp; omega, by simp; omega, by simpa using hVV⟩ (by simp [E2, h7]) rfl ?_
        rintro ⟨⟨k, a⟩, hk1, ha1, ha2, hV⟩
        dsimp only at hk1 ha1 ha2 hV ⊢
        rcases Nat.lt_or_ge k R.right.length with hlt | hge
        · rw [kidsW_step (by omega) hlt] at hV
          by_cases hc : t[i].kids[k] = a
          · rw [if_neg (by simpa using hc)] at hV
            obtain ⟨m, rfl⟩ : ∃ m : Nat, a = m := ⟨a.toNat, by omega⟩
            have hm := walkE_ge (g := g) (t := t) f m i ((k : Int) + 1) R.right[k]
            simp only [Int.toNat_natCast] at hV
            (repeat' (first | (with_reducible refine callS.eq (ih m _ _ _ (by omega)) ?_) | simp (maxSteps := 2000000) only [↓ S2, S2, vIte, ↓reduceIte, Int.reduceNe, Nat.reduceEqDiff, reduceCtorEq, Nat.reduceLeDiff, Nat.reduceAdd, Nat.reduceLT, h5, hc] | simp only [brGen] | simp +contextual (disch := omega) only [Z2] | (with_reducible intro h) | (with_reducible refine And.intro (by omega) ?_) | (with_reducible refine exP (by omega) ?_) | (with_reducible apply And.intro)))
            all_goals try (exfalso; omega)
            · rw [if_pos (by assumption)] at hV; rw [← hV]
            · rw [if_neg (by assumption)] at hV
              exact nx ⟨(k + 1, walkE g t f m i ((k : Int) + 1) R.right[k]), by omega, by dsimp only; omega, by dsimp only; omega, hV⟩ (by simp; omega) (by simp [E2]) rfl
          · rw [if_pos (by simpa using hc)] at hV
            (repeat' (first | (with_reducible refine callS.eq (ih _ _ _ _ (by omega)) ?_) | simp (maxSteps := 2000000) only [↓ S2, S2, vIte, ↓reduceIte, Int.reduceNe, Nat.reduceEqDiff, reduceCtorEq, Nat.reduceLeDiff, Nat.reduceAdd, Nat.reduceLT, h5, hc] | simp only [brGen] | simp +contextual (disch := omega) only [Z2] | (with_reducible intro h) | (with_reducible refine And.intro (by omega) ?_) | (with_reducible refine exP (by omega) ?_) | (with_reducible apply And.intro)))
            all_goals first | (rw [← hV]; done) | (exfalso; omega)
        · rw [kidsW_end (by omega)] at hV
          ((try simp (maxSteps := 2000000) only [↓ S2, S2, vIte, ↓reduceIte, Int.reduceNe, Nat.reduceEqDiff, reduceCtorEq, Nat.reduceLeDiff, Nat.reduceAdd, Nat.reduceLT]); (repeat (simp only [brGen]; try simp (maxSteps := 2000000) only [↓ S2, S2, vIte, ↓reduceIte, Int.reduceNe, Nat.reduceEqDiff, reduceCtorEq, Nat.reduceLeDiff, Nat.reduceAdd, Nat.reduceLT])); (try simp +contextual (disch := omega) only [Z2]); (repeat' (first | (with_reducible intro h) | (with_reducible refine And.intro (by omega) ?_) | (with_reducible refine exP (by omega) ?_) | (with_reducible apply And.intro))))
          all_goals first | (rw [← hV]; done) | (exfalso; omega)
    · rw [if_neg hv]
      rw [fitV_iff] at hv
      (repeat' (first | (with_reducible refine callS.eq (w32 _ _ hg) ?_) | (with_reducible refine callS.eq (w50 _ _) ?_) | simp (maxSteps := 2000000) only [↓ S2, S2, vIte, ↓reduceIte, Int.reduceNe, Nat.reduceEqDiff, reduceCtorEq, Nat.reduceLeDiff, Nat.reduceAdd, Nat.reduceLT] | simp only [brGen] | simp +contextual (disch := omega) only [Z2] | (with_reducible intro h) | (with_reducible refine And.intro (by omega) ?_) | (with_reducible refine exP (by omega) ?_) | (with_reducible apply And.intro)))
      all_goals try rfl
      all_goals (exfalso; apply hv; simp_all only [okV1, decide_eq_true_eq, decide_eq_false_iff_not, true_and, and_true, or_true, true_or, not_true_eq_false, not_false_eq_true]; done)
set_option maxHeartbeats 2000000 in
theorem w60 (g : Gram) (t : List Nod) (hg : smGr g) (hl : t.length ≤ 1048576) (hk : ∀ x ∈ t, x.kids.length ≤ 1048576) : ∀ (f i : Nat) (p q : Int) (s : ByteArray), t.length ≤ i + f → Pure Tryz.prog 60 [Gr g, Tr t, I i, I p, I q, T s] (· = I (walkE g t f i p q s)) := by
  intro f
  induction f with
  | zero =>
    intro i p q s hf
    refine gstart mxd i60 rfl (by simp) ?_; simp (maxSteps := 2000000) only [↓ S2, S2, vIte, ↓reduceIte, Int.reduceNe, Nat.reduceEqDiff, reduceCtorEq, Nat.reduceLeDiff, Nat.reduceAdd, Nat.reduceLT]
    ((try simp (maxSteps := 2000000) only [↓ S2, S2, vIte, ↓reduceIte, Int.reduceNe, Nat.reduceEqDiff, reduceCtorEq, Nat.reduceLeDiff, Nat.reduceAdd, Nat.reduceLT]); (repeat (simp only [brGen]; try simp (maxSteps := 2000000) only [↓ S2, S2, vIte, ↓reduceIte, Int.reduceNe, Nat.reduceEqDiff, reduceCtorEq, Nat.reduceLeDiff, Nat.reduceAdd, Nat.reduceLT])); (try simp +contextual (disch := omega) only [Z2]); (repeat' (first | (with_reducible intro h) | (with_reducible refine And.intro (by omega) ?_) | (with_reducible refine exP (by omega) ?_) | (with_reducible apply And.intro))))
    all_goals first | rfl | (exfalso; omega)
  | succ f ih =>
    intro i p q s hf
    refine gstart mxd i60 rfl (by simp) ?_; simp (maxSteps := 2000000) only [↓ S2, S2, vIte, ↓reduceIte, Int.reduceNe, Nat.reduceEqDiff, reduceCtorEq, Nat.reduceLeDiff, Nat.reduceAdd, Nat.reduceLT]
    by_cases hi : i < t.length
    rotate_left
    · rw [walkE_out (by omega)]
      ((try simp (maxSteps := 2000000) only [↓ S2, S2, vIte, ↓reduceIte, Int.reduceNe, Nat.reduceEqDiff, reduceCtorEq, Nat.reduceLeDiff, Nat.reduceAdd, Nat.reduceLT]); (repeat (simp only [brGen]; try simp (maxSteps := 2000000) only [↓ S2, S2, vIte, ↓reduceIte, Int.reduceNe, Nat.reduceEqDiff, reduceCtorEq, Nat.reduceLeDiff, Nat.reduceAdd, Nat.reduceLT])); (try simp +contextual (disch := omega) only [Z2]); (repeat' (first | (with_reducible intro h) | (with_reducible refine And.intro (by omega) ?_) | (with_reducible refine exP (by omega) ?_) | (with_reducible apply And.intro))))
      all_goals first | rfl | (exfalso; omega)
    have hw : walkE g t (f + 1) i p q s = if fitV g t[i] p q s then kidsW (walkE g t f) i t[i].kids (fRul g.rules t[i].rule).right 0 (i + 1) else -1 := by simp only [walkE, if_pos hi, getD_lt hi]
    have hkk := hk _ (List.getElem_mem hi)
    have hr := smRu_f hg t[i].rule
    have hrr := hr.1
    rw [hw]
    by_cases hv : fitV g t[i] p q s = true
    · rw [if_pos hv]
      obtain ⟨h1, h2, h3, h4, h5, h6, h7⟩ := fitV_iff.1 hv
      subst h2 h3 h4
      clear hw hv
      have hR : ∃ R, fRul g.rules t[i].rule = R := ⟨_, rfl⟩
      obtain ⟨R, hR⟩ := hR
      rw [hR] at hr hrr h5 h7 ⊢
      have main : ∀ (Q : Exit → Env → GH → Prop), True := fun _ => trivial
      rcases h7 with h7 | h7
      · (repeat' (first | (with_reducible refine callS.eq (w39 _ _ hg) ?_) | (with_reducible refine callS.eq (w57 _ _ _) ?_) | simp (maxSteps := 2000000) only [↓ S2, S2, vIte, ↓reduceIte, Int.reduceNe, Nat.reduceEqDiff, reduceCtorEq, Nat.reduceLeDiff, Nat.reduceAdd, Nat.reduceLT, h1, h5, eq_true h6, h7, hR] | simp only [brGen] | simp +contextual (disch := omega) only [Z2] | (with_reducible intro h) | (with_reducible refine And.intro (by omega) ?_) | (with_reducible refine exP (by omega) ?_) | (with_reducible apply And.intro)))
        all_goals try (exfalso; omega)
        have hVV : ∃ V, kidsW (walkE g t f) i t[i].kids R.right 0 (i + 1) = V := ⟨_, rfl⟩
        obtain ⟨V, hVV⟩ := hVV
        rw [hVV]
        refine wloop mxd (ι := { x : Nat × Int // x.1 ≤ R.right.length ∧ (i : Int) < x.2 ∧ x.2 ≤ t.length ∧ kidsW (walkE g t f) i (t[i].kids.drop x.1) (R.right.drop x.1) x.1 x.2 = V }) (fun x => [(2, I i), (6, .rop 2 (Gr g)), (7, .rop 1 (Tr t)), (14, .rop 6 (Ru R)), (16, I x.1.2), (84, IS t[i].kids), (85, I R.right.length), (86, I x.1.1)]) (fun _ => []) (fun x => R.right.length - x.1.1) ⟨(0, i + 1), by simp, by simp; omega, by simp; omega, by simpa using hVV⟩ (by simp [E2, h7]) rfl ?_
        rintro ⟨⟨k, a⟩, hk1, ha1, ha2, hV⟩
        dsimp only at hk1 ha1 ha2 hV ⊢
        rcases Nat.lt_or_ge k R.right.length with hlt | hge
        · rw [kidsW_step (by omega) hlt] at hV
          by_cases hc : t[i].kids[k] = a
          · rw [if_neg (by simpa using hc)] at hV
            obtain ⟨m, rfl⟩ : ∃ m : Nat, a = m := ⟨a.toNat, by omega⟩
            have hm := walkE_ge (g := g) (t := t) f m i ((k : Int) + 1) R.right[k]
            simp only [Int.toNat_natCast] at hV
            (repeat' (first | (with_reducible refine callS.eq (ih m _ _ _ (by omega)) ?_) | simp (maxSteps := 2000000) only [↓ S2, S2, vIte, ↓reduceIte, Int.reduceNe, Nat.reduceEqDiff, reduceCtorEq, Nat.reduceLeDiff, Nat.reduceAdd, Nat.reduceLT, h5, hc] | simp only [brGen] | simp +contextual (disch := omega) only [Z2] | (with_reducible intro h) | (with_reducible refine And.intro (by omega) ?_) | (with_reducible refine exP (by omega) ?_) | (with_reducible apply And.intro)))
            all_goals try (exfalso; omega)
            · rw [if_pos (by assumption)] at hV; rw [← hV]
            · rw [if_neg (by assumption)] at hV
              exact nx ⟨(k + 1, walkE g t f m i ((k : Int) + 1) R.right[k]), by omega, by dsimp only; omega, by dsimp only; omega, hV⟩ (by simp; omega) (by simp [E2]) rfl
          · rw [if_pos (by simpa using hc)] at hV
            (repeat' (first | (with_reducible refine callS.eq (ih _ _ _ _ (by omega)) ?_) | simp (maxSteps := 2000000) only [↓ S2, S2, vIte, ↓reduceIte, Int.reduceNe, Nat.reduceEqDiff, reduceCtorEq, Nat.reduceLeDiff, Nat.reduceAdd, Nat.reduceLT, h5, hc] | simp only [brGen] | simp +contextual (disch := omega) only [Z2] | (with_reducible intro h) | (with_reducible refine And.intro (by omega) ?_) | (with_reducible refine exP (by omega) ?_) | (with_reducible apply And.intro)))
            all_goals first | (rw [← hV]; done) | (exfalso; omega)
        · rw [kidsW_end (by omega)] at hV
          ((try simp (maxSteps := 2000000) only [↓ S2, S2, vIte, ↓reduceIte, Int.reduceNe, Nat.reduceEqDiff, reduceCtorEq, Nat.reduceLeDiff, Nat.reduceAdd, Nat.reduceLT]); (repeat (simp only [brGen]; try simp (maxSteps := 2000000) only [↓ S2, S2, vIte, ↓reduceIte, Int.reduceNe, Nat.reduceEqDiff, reduceCtorEq, Nat.reduceLeDiff, Nat.reduceAdd, Nat.reduceLT])); (try simp +contextual (disch := omega) only [Z2]); (repeat' (first | (with_reducible intro h) | (with_reducible refine And.intro (by omega) ?_) | (with_reducible refine exP (by omega) ?_) | (with_reducible apply And.intro))))
          all_goals first | (rw [← hV]; done) | (exfalso; omega)
      · (repeat' (first | (with_reducible refine callS.eq (w39 _ _ hg) ?_) | (with_reducible refine callS.eq (w57 _ _ _) ?_) | simp (maxSteps := 2000000) only [↓ S2, S2, vIte, ↓reduceIte, Int.reduceNe, Nat.reduceEqDiff, reduceCtorEq, Nat.reduceLeDiff, Nat.reduceAdd, Nat.reduceLT, h1, h5, eq_true h6, h7.1, eq_true h7.2, hR] | simp only [brGen] | simp +contextual (disch := omega) only [Z2] | (with_reducible intro h) | (with_reducible refine And.intro (by omega) ?_) | (with_reducible refine exP (by omega) ?_) | (with_reducible apply And.intro)))
        all_goals try (exfalso; omega)
        have hVV : ∃ V, kidsW (walkE g t f) i t[i].kids R.right 0 (i + 1) = V := ⟨_, rfl⟩
        obtain ⟨V, hVV⟩ := hVV
        rw [hVV]
        refine wloop mxd (ι := { x : Nat × Int // x.1 ≤ R.right.length ∧ (i : Int) < x.2 ∧ x.2 ≤ t.length ∧ kidsW (walkE g t f) i (t[i].kids.drop x.1) (R.right.drop x.1) x.1 x.2 = V }) (fun x => [(2, I i), (6, .rop 2 (Gr g)), (7, .rop 1 (Tr t)), (14, .rop 6 (Ru R)), (16, I x.1.2), (84, IS t[i].kids), (85, I R.right.length), (86, I x.1.1)]) (fun _ => []) (fun x => R.right.length - x.1.1) ⟨(0, i + 1), by simp, by simp; omega, by simp; omega, by simpa using hVV⟩ (by simp [E2, h7]) rfl ?_
        rintro ⟨⟨k, a⟩, hk1, ha1, ha2, hV⟩
        dsimp only at hk1 ha1 ha2 hV ⊢
        rcases Nat.lt_or_ge k R.right.length with hlt | hge
        · rw [kidsW_step (by omega) hlt] at hV
          by_cases hc : t[i].kids[k] = a
          · rw [if_neg (by simpa using hc)] at hV
            obtain ⟨m, rfl⟩ : ∃ m : Nat, a = m := ⟨a.toNat, by omega⟩
            have hm := walkE_ge (g := g) (t := t) f m i ((k : Int) + 1) R.right[k]
            simp only [Int.toNat_natCast] at hV
            (repeat' (first | (with_reducible refine callS.eq (ih m _ _ _ (by omega)) ?_) | simp (maxSteps := 2000000) only [↓ S2, S2, vIte, ↓reduceIte, Int.reduceNe, Nat.reduceEqDiff, reduceCtorEq, Nat.reduceLeDiff, Nat.reduceAdd, Nat.reduceLT, h5, hc] | simp only [brGen] | simp +contextual (disch := omega) only [Z2] | (with_reducible intro h) | (with_reducible refine And.intro (by omega) ?_) | (with_reducible refine exP (by omega) ?_) | (with_reducible apply And.intro)))
            all_goals try (exfalso; omega)
            · rw [if_pos (by assumption)] at hV; rw [← hV]
            · rw [if_neg (by assumption)] at hV
              exact nx ⟨(k + 1, walkE g t f m i ((k : Int) + 1) R.right[k]), by omega, by dsimp only; omega, by dsimp only; omega, hV⟩ (by simp; omega) (by simp [E2]) rfl
          · rw [if_pos (by simpa using hc)] at hV
            (repeat' (first | (with_reducible refine callS.eq (ih _ _ _ _ (by omega)) ?_) | simp (maxSteps := 2000000) only [↓ S2, S2, vIte, ↓reduceIte, Int.reduceNe, Nat.reduceEqDiff, reduceCtorEq, Nat.reduceLeDiff, Nat.reduceAdd, Nat.reduceLT, h5, hc] | simp only [brGen] | simp +contextual (disch := omega) only [Z2] | (with_reducible intro h) | (with_reducible refine And.intro (by omega) ?_) | (with_reducible refine exP (by omega) ?_) | (with_reducible apply And.intro)))
            all_goals first | (rw [← hV]; done) | (exfalso; omega)
        · rw [kidsW_end (by omega)] at hV
          ((try simp (maxSteps := 2000000) only [↓ S2, S2, vIte, ↓reduceIte, Int.reduceNe, Nat.reduceEqDiff, reduceCtorEq, Nat.reduceLeDiff, Nat.reduceAdd, Nat.reduceLT]); (repeat (simp only [brGen]; try simp (maxSteps := 2000000) only [↓ S2, S2, vIte, ↓reduceIte, Int.reduceNe, Nat.reduceEqDiff, reduceCtorEq, Nat.reduceLeDiff, Nat.reduceAdd, Nat.reduceLT])); (try simp +contextual (disch := omega) only [Z2]); (repeat' (first | (with_reducible intro h) | (with_reducible refine And.intro (by omega) ?_) | (with_reducible refine exP (by omega) ?_) | (with_reducible apply And.intro))))
          all_goals first | (rw [← hV]; done) | (exfalso; omega)
    · rw [if_neg hv]
      rw [fitV_iff] at hv
      (repeat' (first | (with_reducible refine callS.eq (w39 _ _ hg) ?_) | (with_reducible refine callS.eq (w57 _ _ _) ?_) | simp (maxSteps := 2000000) only [↓ S2, S2, vIte, ↓reduceIte, Int.reduceNe, Nat.reduceEqDiff, reduceCtorEq, Nat.reduceLeDiff, Nat.reduceAdd, Nat.reduceLT] | simp only [brGen] | simp +contextual (disch := omega) only [Z2] | (with_reducible intro h) | (with_reducible refine And.intro (by omega) ?_) | (with_reducible refine exP (by omega) ?_) | (with_reducible apply And.intro)))
      all_goals try rfl
      all_goals (exfalso; apply hv; simp_all only [okV1, decide_eq_true_eq, decide_eq_false_iff_not, true_and, and_true, or_true, true_or, not_true_eq_false, not_false_eq_true]; done)
end Go.Proofs.YtbdmpkidcpblaaaGreatDoor

namespace Go.Proofs.YtbdmpkidcpblaaaGreatDoor
open Go.Gh
set_option maxRecDepth 20000
set_option linter.unusedSimpArgs false
set_option linter.unusedVariables false
theorem w49 (l : List Int) (x : Int) : Pure Tryz.prog 49 [IS l, I x] (· = B (hasI l x)) := by
  refine GCalls.lenA fun hl => ?_
  have hlen := hl.1.1
  simp only [List.length_map, maxL] at hlen
  refine gstart mxd i49 rfl (by simp) ?_; simp (maxSteps := 2000000) only [↓ S2, S2, vIte, ↓reduceIte, Int.reduceNe, Nat.reduceEqDiff, reduceCtorEq, Nat.reduceLeDiff, Nat.reduceAdd, Nat.reduceLT]
  refine wloop mxd (ι := { i : Nat // i ≤ l.length ∧ ∀ y ∈ l.take i, decide (y = x) = false }) (fun i => [(0, IS l), (1, I x), (5, I i.1)]) (fun _ => []) (fun i => l.length - i.1) ⟨0, by simp⟩ (by simp [E2]) rfl ?_
  rintro ⟨i, hi, hn⟩
  ((try simp (maxSteps := 2000000) only [↓ S2, S2, vIte, ↓reduceIte, Int.reduceNe, Nat.reduceEqDiff, reduceCtorEq, Nat.reduceLeDiff, Nat.reduceAdd, Nat.reduceLT]); (repeat (simp only [brGen]; try simp (maxSteps := 2000000) only [↓ S2, S2, vIte, ↓reduceIte, Int.reduceNe, Nat.reduceEqDiff, reduceCtorEq, Nat.reduceLeDiff, Nat.reduceAdd, Nat.reduceLT])); (try simp +contextual (disch := omega) only [Z2]); (repeat' (first | (with_reducible intro h) | (with_reducible refine And.intro (by omega) ?_) | (with_reducible refine exP (by omega) ?_) | (with_reducible apply And.intro))))
  · rw [hasI_hit (by assumption) h]
  · exact nx ⟨i + 1, by omega, take_step (by assumption) (by simpa using h) hn⟩ (by simp; omega) (by simp [E2]) rfl
  · have : i = l.length := by omega
    subst this
    rw [List.take_of_length_le (Nat.le_refl _)] at hn
    rw [hasI_none hn]
theorem w29 (t : List Nod) (hl : t.length ≤ 1048576) : Pure Tryz.prog 29 [Tr t] (· = B (idsV t && decide (1 ≤ t.length ∧ t.length ≤ 16))) := by
  refine Pure.bor ?_
  refine gstart mxd i29 rfl (by simp) ?_; simp (maxSteps := 2000000) only [↓ S2, S2, vIte, ↓reduceIte, Int.reduceNe, Nat.reduceEqDiff, reduceCtorEq, Nat.reduceLeDiff, Nat.reduceAdd, Nat.reduceLT]
  ((try simp (maxSteps := 2000000) only [↓ S2, S2, vIte, ↓reduceIte, Int.reduceNe, Nat.reduceEqDiff, reduceCtorEq, Nat.reduceLeDiff, Nat.reduceAdd, Nat.reduceLT]); (repeat (simp only [brGen]; try simp (maxSteps := 2000000) only [↓ S2, S2, vIte, ↓reduceIte, Int.reduceNe, Nat.reduceEqDiff, reduceCtorEq, Nat.reduceLeDiff, Nat.reduceAdd, Nat.reduceLT])); (try simp +contextual (disch := omega) only [Z2]); (repeat' (first | (with_reducible intro h) | (with_reducible refine And.intro (by omega) ?_) | (with_reducible refine exP (by omega) ?_) | (with_reducible apply And.intro))))
  rename_i r
  refine ploop mxd (ι := { x : Nat × Nat // x.2 ≤ t.length ∧ ∀ j, j < x.2 → gid t j = true }) (fun x => [(1, .rop 1 (Tr t)), (3, .own x.1.1 1 0 x.1.2), (4, I x.1.2)]) (fun x => [(x.1.1, 1, ((t.take x.1.2).map (·.id)).map I)]) (fun x => t.length - x.1.2) ⟨(r, 0), by simp⟩ (by simp [E2]) (by simp [subH, hget, names]) ?_
  rintro ⟨⟨r, i⟩, hi, hn⟩ -
  dsimp only at hi hn ⊢
  rcases Nat.lt_or_ge i t.length with hlt | hge
  · (repeat' (first | (with_reducible refine callS.eq (w31 _ _ _) ?_) | simp (maxSteps := 2000000) only [↓ S2, S2, vIte, ↓reduceIte, Int.reduceNe, Nat.reduceEqDiff, reduceCtorEq, Nat.reduceLeDiff, Nat.reduceAdd, Nat.reduceLT] | simp only [brGen] | simp +contextual (disch := omega) only [Z2] | (with_reducible intro h) | (with_reducible refine And.intro (by omega) ?_) | (with_reducible refine exP (by omega) ?_) | (with_reducible apply And.intro)))
    all_goals try (exfalso; omega)
    · refine callS.borA (w49 ((t.take i).map (·.id)) t[i].id) (.cons (bor_IS hget_new (by simp; omega)) (.cons .refl .nil)) rfl ?_
      ((try simp (maxSteps := 2000000) only [↓ S2, S2, vIte, ↓reduceIte, Int.reduceNe, Nat.reduceEqDiff, reduceCtorEq, Nat.reduceLeDiff, Nat.reduceAdd, Nat.reduceLT]); (repeat (simp only [brGen]; try simp (maxSteps := 2000000) only [↓ S2, S2, vIte, ↓reduceIte, Int.reduceNe, Nat.reduceEqDiff, reduceCtorEq, Nat.reduceLeDiff, Nat.reduceAdd, Nat.reduceLT])); (try simp +contextual (disch := omega) only [Z2]); (repeat' (first | (with_reducible intro h) | (with_reducible refine And.intro (by omega) ?_) | (with_reducible refine exP (by omega) ?_) | (with_reducible apply And.intro))))
      · rw [hasI_map] at h
        rw [idsV_bad hlt (gid_f2 hlt h)]
        exact .refl
      · rename_i q2
        have h2 := neH_of h
        (replace h2 := h2; simp only [neH_cons, neH_nil, neA_cons, neA_nil, and_true, true_and] at h2)
        ((try simp (maxSteps := 2000000) only [↓ S2, S2, vIte, ↓reduceIte, Int.reduceNe, Nat.reduceEqDiff, reduceCtorEq, Nat.reduceLeDiff, Nat.reduceAdd, Nat.reduceLT, hget_c, hset_c, hdel_c, h2, t_ldf]); (repeat (simp only [brGen]; try simp (maxSteps := 2000000) only [↓ S2, S2, vIte, ↓reduceIte, Int.reduceNe, Nat.reduceEqDiff, reduceCtorEq, Nat.reduceLeDiff, Nat.reduceAdd, Nat.reduceLT, hget_c, hset_c, hdel_c, h2, t_ldf])); (try simp +contextual (disch := omega) only [Z2, hget_c, hset_c, hdel_c, h2, t_ldf]); (repeat' (first | (with_reducible intro h) | (with_reducible refine And.intro (by omega) ?_) | (with_reducible refine exP (by omega) ?_) | (with_reducible apply And.intro))))
        · simp; omega
        rename_i hh _ _ _ q3
        have h3 := neH_of h
        (replace h3 := h3; simp only [neH_cons, neH_nil, neA_cons, neA_nil, and_true, true_and] at h3)
        rw [takeApp2 I (·.id) t i hlt]
        refine px ⟨(q3, i + 1), by omega, fun j hj => ?_⟩ (by simp; omega) (by simp [E2]) (by simp [subH, hget, names, h3])
        rcases Nat.lt_or_ge j i with hji | hji
        · exact hn j hji
        · have : j = i := by omega
          subst this
          exact gid_t hlt (by assumption) (by rw [← hasI_map]; assumption)
    · rw [idsV_bad hlt (gid_f1 hlt (by assumption))]
      exact .refl
  · have : i = t.length := by omega
    subst this
    (repeat' (first | (with_reducible refine callS.eq (w31 _ _ _) ?_) | simp (maxSteps := 2000000) only [↓ S2, S2, vIte, ↓reduceIte, Int.reduceNe, Nat.reduceEqDiff, reduceCtorEq, Nat.reduceLeDiff, Nat.reduceAdd, Nat.reduceLT] | simp only [brGen] | simp +contextual (disch := omega) only [Z2] | (with_reducible intro h) | (with_reducible refine And.intro (by omega) ?_) | (with_reducible refine exP (by omega) ?_) | (with_reducible apply And.intro)))
    have e : B (decide (1 ≤ (t.length : Int) ∧ (t.length : Int) ≤ 16)) = B (idsV t && decide (1 ≤ t.length ∧ t.length ≤ 16)) := by rw [idsV_ok hn, Bool.true_and]; exact bEq (by omega)
    rw [← e]
    exact .refl
theorem w59 (x y : Nod) : Pure Tryz.prog 59 [Nd x, .rop 6 (Nd y)] (· = B (decide (x.id = y.id))) := by
  refine gstart mxd i59 rfl (by simp) ?_; simp (maxSteps := 2000000) only [↓ S2, S2, vIte, ↓reduceIte, Int.reduceNe, Nat.reduceEqDiff, reduceCtorEq, Nat.reduceLeDiff, Nat.reduceAdd, Nat.reduceLT]
  try ((try simp (maxSteps := 2000000) only [↓ S2, S2, vIte, ↓reduceIte, Int.reduceNe, Nat.reduceEqDiff, reduceCtorEq, Nat.reduceLeDiff, Nat.reduceAdd, Nat.reduceLT]); (repeat (simp only [brGen]; try simp (maxSteps := 2000000) only [↓ S2, S2, vIte, ↓reduceIte, Int.reduceNe, Nat.reduceEqDiff, reduceCtorEq, Nat.reduceLeDiff, Nat.reduceAdd, Nat.reduceLT])); (try simp +contextual (disch := omega) only [Z2]); (repeat' (first | (with_reducible intro h) | (with_reducible refine And.intro (by omega) ?_) | (with_reducible refine exP (by omega) ?_) | (with_reducible apply And.intro))))
theorem w58 (t : List Nod) (f : Nat) (cs : List GV) (p : Nod → Bool) (hp : ∀ x ∈ t, Pure Tryz.prog f (Nd x :: cs) (· = B (p x))) :
    Pure Tryz.prog 58 [NdS t, .clo f cs] (· = B (t.any p)) := by
  refine gstart mxd i58 rfl (by simp) ?_; simp (maxSteps := 2000000) only [↓ S2, S2, vIte, ↓reduceIte, Int.reduceNe, Nat.reduceEqDiff, reduceCtorEq, Nat.reduceLeDiff, Nat.reduceAdd, Nat.reduceLT]
  refine callS.eq (w76 t f cs p hp) ?_
  ((try simp (maxSteps := 2000000) only [↓ S2, S2, vIte, ↓reduceIte, Int.reduceNe, Nat.reduceEqDiff, reduceCtorEq, Nat.reduceLeDiff, Nat.reduceAdd, Nat.reduceLT]); (repeat (simp only [brGen]; try simp (maxSteps := 2000000) only [↓ S2, S2, vIte, ↓reduceIte, Int.reduceNe, Nat.reduceEqDiff, reduceCtorEq, Nat.reduceLeDiff, Nat.reduceAdd, Nat.reduceLT])); (try simp +contextual (disch := omega) only [Z2]); (repeat' (first | (with_reducible intro h) | (with_reducible refine And.intro (by omega) ?_) | (with_reducible refine exP (by omega) ?_) | (with_reducible apply And.intro))))
  rw [← any_ix]
theorem w37 (g : Gram) (t : List Nod) (s : ByteArray) (hg : smGr g) (hl : t.length ≤ 1048576) (hk : ∀ x ∈ t, x.kids.length ≤ 1048576) : Pure Tryz.prog 37 [Gr g, Tr t, T s] (· = B (treeOf g t s)) := by
  refine gstart mxd i37 rfl (by simp) ?_; simp (maxSteps := 2000000) only [↓ S2, S2, vIte, ↓reduceIte, Int.reduceNe, Nat.reduceEqDiff, reduceCtorEq, Nat.reduceLeDiff, Nat.reduceAdd, Nat.reduceLT]
  refine callS.eq (w57 _ _ _) ?_
  ((try simp (maxSteps := 2000000) only [↓ S2, S2, vIte, ↓reduceIte, Int.reduceNe, Nat.reduceEqDiff, reduceCtorEq, Nat.reduceLeDiff, Nat.reduceAdd, Nat.reduceLT]); (repeat (simp only [brGen]; try simp (maxSteps := 2000000) only [↓ S2, S2, vIte, ↓reduceIte, Int.reduceNe, Nat.reduceEqDiff, reduceCtorEq, Nat.reduceLeDiff, Nat.reduceAdd, Nat.reduceLT])); (try simp +contextual (disch := omega) only [Z2]); (repeat' (first | (with_reducible intro h) | (with_reducible refine And.intro (by omega) ?_) | (with_reducible refine exP (by omega) ?_) | (with_reducible apply And.intro))))
  rotate_left
  · simp only [treeOf]; rw [decide_eq_false (by omega)]; rfl
  refine wloop mxd (ι := { i : Nat // i ≤ t.length ∧ ∀ j, j < i → gid t j = true }) (fun i => [(2, T s), (3, .rop 2 (Gr g)), (4, .rop 1 (Tr t)), (15, NdS t), (16, I t.length), (17, I i.1)]) (fun _ => []) (fun i => t.length - i.1) ⟨0, by simp⟩ (by simp [E2]) rfl ?_
  rintro ⟨i, hi, hn⟩
  rcases Nat.lt_or_ge i t.length with hlt | hge
  · (repeat' (first | (with_reducible refine callS.eq (w57 _ _ _) ?_) | simp (maxSteps := 2000000) only [↓ S2, S2, vIte, ↓reduceIte, Int.reduceNe, Nat.reduceEqDiff, reduceCtorEq, Nat.reduceLeDiff, Nat.reduceAdd, Nat.reduceLT] | simp only [brGen] | simp +contextual (disch := omega) only [Z2] | (with_reducible intro h) | (with_reducible refine And.intro (by omega) ?_) | (with_reducible refine exP (by omega) ?_) | (with_reducible apply And.intro)))
    all_goals try (exfalso; omega)
    · rw [show List.drop (Int.toNat 0) (List.take i (List.map Nd t)) = (t.take i).map Nd from by simp [List.map_take]]
      refine callS.eq (w58 (t.take i) _ _ (fun y => decide (y.id = t[i].id)) fun x _ => w59 x t[i]) ?_
      ((try simp (maxSteps := 2000000) only [↓ S2, S2, vIte, ↓reduceIte, Int.reduceNe, Nat.reduceEqDiff, reduceCtorEq, Nat.reduceLeDiff, Nat.reduceAdd, Nat.reduceLT]); (repeat (simp only [brGen]; try simp (maxSteps := 2000000) only [↓ S2, S2, vIte, ↓reduceIte, Int.reduceNe, Nat.reduceEqDiff, reduceCtorEq, Nat.reduceLeDiff, Nat.reduceAdd, Nat.reduceLT])); (try simp +contextual (disch := omega) only [Z2]); (repeat' (first | (with_reducible intro h) | (with_reducible refine And.intro (by omega) ?_) | (with_reducible refine exP (by omega) ?_) | (with_reducible apply And.intro))))
      · rw [treeOf_bad (idsV_bad hlt (gid_f2 hlt h))]
      · refine nx ⟨i + 1, by omega, fun j hj => ?_⟩ (by simp; omega) (by simp [E2]) rfl
        rcases Nat.lt_or_ge j i with hji | hji
        · exact hn j hji
        · have : j = i := by omega
          subst this
          exact gid_t hlt (by assumption) h
    · rw [treeOf_bad (idsV_bad hlt (gid_f1 hlt (by assumption)))]
  · have : i = t.length := by omega
    subst this
    have hw := w60 g t hg hl hk t.length 0 (-1) 0 s (by omega)
    simp only [Int.natCast_zero] at hw
    (repeat' (first | (with_reducible refine callS.eq (hw) ?_) | simp (maxSteps := 2000000) only [↓ S2, S2, vIte, ↓reduceIte, Int.reduceNe, Nat.reduceEqDiff, reduceCtorEq, Nat.reduceLeDiff, Nat.reduceAdd, Nat.reduceLT] | simp only [brGen] | simp +contextual (disch := omega) only [Z2] | (with_reducible intro h) | (with_reducible refine And.intro (by omega) ?_) | (with_reducible refine exP (by omega) ?_) | (with_reducible apply And.intro)))
    simp only [treeOf, idsV_ok hn, Bool.true_and]
    rw [decide_eq_true (show 1 ≤ t.length ∧ t.length ≤ 16 by omega), Bool.true_and]
theorem w15 (g : Gram) (t : List Nod) (s : ByteArray) (hg : smGr g) (hl : t.length ≤ 1048576) (hk : ∀ x ∈ t, x.kids.length ≤ 1048576) : Pure Tryz.prog 15 [Gr g, Tr t, T s] (· = B (treeOf g t s)) := by
  have hw := w30 g t hg hl hk t.length 0 (-1) 0 s (by omega)
  simp only [Int.natCast_zero] at hw
  refine gstart mxd i15 rfl (by simp) ?_; simp (maxSteps := 2000000) only [↓ S2, S2, vIte, ↓reduceIte, Int.reduceNe, Nat.reduceEqDiff, reduceCtorEq, Nat.reduceLeDiff, Nat.reduceAdd, Nat.reduceLT]
  (repeat' (first | (with_reducible refine callS.eq (w29 t hl) ?_) | (with_reducible refine callS.eq (hw) ?_) | simp (maxSteps := 2000000) only [↓ S2, S2, vIte, ↓reduceIte, Int.reduceNe, Nat.reduceEqDiff, reduceCtorEq, Nat.reduceLeDiff, Nat.reduceAdd, Nat.reduceLT] | simp only [brGen] | simp +contextual (disch := omega) only [Z2] | (with_reducible intro h) | (with_reducible refine And.intro (by omega) ?_) | (with_reducible refine exP (by omega) ?_) | (with_reducible apply And.intro)))
  all_goals first | (simp_all [treeOf]; done) | (simp_all [treeOf]; intros; omega)
end Go.Proofs.YtbdmpkidcpblaaaGreatDoor

namespace Go.Proofs.YtbdmpkidcpblaaaGreatDoor
open Go.Gh
set_option maxRecDepth 20000
set_option linter.unusedSimpArgs false
set_option linter.unusedVariables false
theorem w21 (g : Gram) (t : List Nod) (hg : smGr g) (hl : t.length ≤ 1048576) (hk : ∀ x ∈ t, x.kids.length ≤ 1048576) : Pure Tryz.prog 21 [Gr g, Tr t] (· = B (treeOf g t (symN g t 0))) := by
  refine gstart mxd i21 rfl (by simp) ?_; simp (maxSteps := 2000000) only [↓ S2, S2, vIte, ↓reduceIte, Int.reduceNe, Nat.reduceEqDiff, reduceCtorEq, Nat.reduceLeDiff, Nat.reduceAdd, Nat.reduceLT]
  (repeat' (first | (with_reducible refine callS.eq (w38 g t 0 hg) ?_) | (with_reducible refine callS.eq (w37 g t _ hg hl hk) ?_) | simp (maxSteps := 2000000) only [↓ S2, S2, vIte, ↓reduceIte, Int.reduceNe, Nat.reduceEqDiff, reduceCtorEq, Nat.reduceLeDiff, Nat.reduceAdd, Nat.reduceLT, maxLv] | simp only [brGen] | simp +contextual (disch := omega) only [Z2] | (with_reducible intro h) | (with_reducible refine And.intro (by omega) ?_) | (with_reducible refine exP (by omega) ?_) | (with_reducible apply And.intro)))
end Go.Proofs.YtbdmpkidcpblaaaGreatDoor

namespace Go.Proofs.YtbdmpkidcpblaaaGreatDoor
open Go.Gh
set_option maxRecDepth 20000
set_option linter.unusedSimpArgs false
set_option linter.unusedVariables false
open Go.Shelf
def Tryz.itoaL_ren : Go.Shelf.Ren := ⟨fun | 171 => 62 | 243 => 77 | 246 => 87 | 283 => 94 | 284 => 95 | 285 => 96 | 286 => 97 | 129 => 100 | 317 => 99 | 318 => 101 | 319 => 102 | 320 => 103 | 337 => 104 | 338 => 105 | n => n, fun | 3 => 3 | 9 => 9 | 2 => 2 | 4 => 4 | 171 => 155 | 0 => 0 | 53 => 156 | 37 => 98 | 5 => 5 | 173 => 159 | 212 => 162 | 51 => 163 | 20 => 20 | 213 => 164 | 46 => 166 | 232 => 169 | 233 => 170 | n => n, fun | 17 => 0 | 18 => 1 | 19 => 2 | n => n⟩
theorem Tryz.itoaL : Go.Proofs.LaysM.n171 Tryz.prog Tryz.itoaL_ren := {
  mixed := by kernel_rfl
  f129 := Tryz.func100.trans (congrArg some (by kernel_rfl))
  f171 := Tryz.func62.trans (congrArg some (by kernel_rfl))
  f243 := Tryz.func77.trans (congrArg some (by kernel_rfl))
  f246 := Tryz.func87.trans (congrArg some (by kernel_rfl))
  f283 := Tryz.func94.trans (congrArg some (by kernel_rfl))
  f284 := Tryz.func95.trans (congrArg some (by kernel_rfl))
  f285 := Tryz.func96.trans (congrArg some (by kernel_rfl))
  f286 := Tryz.func97.trans (congrArg some (by kernel_rfl))
  f317 := Tryz.func99.trans (congrArg some (by kernel_rfl))
  f318 := Tryz.func101.trans (congrArg some (by kernel_rfl))
  f319 := Tryz.func102.trans (congrArg some (by kernel_rfl))
  f320 := Tryz.func103.trans (congrArg some (by kernel_rfl))
  f337 := Tryz.func104.trans (congrArg some (by kernel_rfl))
  f338 := Tryz.func105.trans (congrArg some (by kernel_rfl))
  t0 := Tryz.underlying0
  a0 := Tryz.isAgg0
  z0 := Tryz.sizeOf0
  v0 := Tryz.zeroValue0
  t2 := Tryz.underlying2
  a2 := Tryz.isAgg2
  z2 := Tryz.sizeOf2
  v2 := Tryz.zeroValue2
  t3 := Tryz.underlying3
  a3 := Tryz.isAgg3
  z3 := Tryz.sizeOf3
  v3 := Tryz.zeroValue3
  t4 := Tryz.underlying4
  a4 := Tryz.isAgg4
  z4 := Tryz.sizeOf4
  v4 := Tryz.zeroValue4
  t5 := Tryz.underlying5
  a5 := Tryz.isAgg5
  z5 := Tryz.sizeOf5
  v5 := Tryz.zeroValue5
  t9 := Tryz.underlying9
  a9 := Tryz.isAgg9
  z9 := Tryz.sizeOf9
  v9 := Tryz.zeroValue9
  t20 := Tryz.underlying20
  a20 := Tryz.isAgg20
  z20 := Tryz.sizeOf20
  v20 := Tryz.zeroValue20
  t37 := Tryz.underlying98
  a37 := Tryz.isAgg98
  z37 := Tryz.sizeOf98
  v37 := Tryz.zeroValue98
  t46 := Tryz.underlying166
  a46 := Tryz.isAgg166
  z46 := Tryz.sizeOf166
  v46 := Tryz.zeroValue166
  t51 := Tryz.underlying163
  a51 := Tryz.isAgg163
  z51 := Tryz.sizeOf163
  v51 := Tryz.zeroValue163
  t53 := Tryz.underlying156
  a53 := Tryz.isAgg156
  z53 := Tryz.sizeOf156
  v53 := Tryz.zeroValue156
  t171 := Tryz.underlying155
  a171 := Tryz.isAgg155
  z171 := Tryz.sizeOf155
  v171 := Tryz.zeroValue155
  t173 := Tryz.underlying159
  a173 := Tryz.isAgg159
  z173 := Tryz.sizeOf159
  v173 := Tryz.zeroValue159
  t212 := Tryz.underlying162
  a212 := Tryz.isAgg162
  z212 := Tryz.sizeOf162
  v212 := Tryz.zeroValue162
  t213 := Tryz.underlying164
  a213 := Tryz.isAgg164
  z213 := Tryz.sizeOf164
  t232 := Tryz.underlying169
  a232 := Tryz.isAgg169
  z232 := Tryz.sizeOf169
  v232 := Tryz.zeroValue169
  t233 := Tryz.underlying170
  a233 := Tryz.isAgg170
  z233 := Tryz.sizeOf170
  v233 := Tryz.zeroValue170
  g17 := by kernel_rfl
  g18 := by kernel_rfl
  g19 := by kernel_rfl
  i0 := by kernel_rfl
  i2 := by kernel_rfl
  i3 := by kernel_rfl
  i4 := by kernel_rfl
  i5 := by kernel_rfl
  i9 := by kernel_rfl
  i20 := by kernel_rfl
  i37 := by kernel_rfl
  i46 := by kernel_rfl
  i51 := by kernel_rfl
  i53 := by kernel_rfl
  i171 := by kernel_rfl
  i173 := by kernel_rfl
  i212 := by kernel_rfl
  i232 := by kernel_rfl
  i233 := by kernel_rfl
  m17 := by kernel_rfl
  m18 := by kernel_rfl
  m19 := by kernel_rfl }
end Go.Proofs.YtbdmpkidcpblaaaGreatDoor

namespace Go.Proofs.YtbdmpkidcpblaaaGreatDoor
open Go.Gh
set_option maxRecDepth 20000
set_option linter.unusedSimpArgs false
set_option linter.unusedVariables false
open Go.Shelf Go.RowKit Go.Lib Go.Sort
theorem Tryz.gp10 : Tryz.prog.globalNamed "internal/strconv.uint64pow10" = some 0 := by kernel_rfl
theorem p62 (n : Int) (h0 : -9223372036854775808 ≤ n) (h1 : n ≤ 9223372036854775807) : PureT Tryz.prog (tab10 0) 62 [I n] (· = .val (mkS (itoa n))) := by
  have eg : ∀ args w, (callFunc 62 args).run Tryz.prog w = .ok (.enter 62 args) w := enters_of Tryz.func62 (by kernel_rfl) rfl
  refine itoa_ok (args := fun n => #[.int .i64 n]) (n := n) Tryz.gp10 ?_ (fun w ht => Any.strconv_Itoa Tryz.itoaL n h0 h1 w ht) eg
  intro w D vs h
  simp only [ML, MV] at h
  obtain ⟨v, vs', F1, F2, rfl, _, ⟨rfl, _⟩, rfl, _⟩ := h
  rfl
theorem p40 (n : Int) (h0 : -9223372036854775808 ≤ n) (h1 : n ≤ 9223372036854775807) : PureT Tryz.prog (tab10 0) 40 [I n] (· = .val (mkS (itoa n))) := by
  refine gstart mxd i40 rfl (by simp) ?_; simp (maxSteps := 2000000) only [↓ S2, S2, vIte, ↓reduceIte, Int.reduceNe, Nat.reduceEqDiff, reduceCtorEq, Nat.reduceLeDiff, Nat.reduceAdd, Nat.reduceLT]
  ((try simp (maxSteps := 4000000) +contextual only [↓ S2, S2, vIte, ↓reduceIte, Int.reduceNe, Nat.reduceEqDiff, reduceCtorEq, Nat.reduceLeDiff, Nat.reduceAdd, Nat.reduceLT, hget_c, hset_c, hdel_c, neN, neA_cons, neA_nil, ]); (repeat (simp only [brGen]; try simp (maxSteps := 4000000) +contextual only [↓ S2, S2, vIte, ↓reduceIte, Int.reduceNe, Nat.reduceEqDiff, reduceCtorEq, Nat.reduceLeDiff, Nat.reduceAdd, Nat.reduceLT, hget_c, hset_c, hdel_c, neN, neA_cons, neA_nil, ])); (try simp +contextual (disch := omega) only [Z2, ]); (repeat' (first | (with_reducible intro h) | (with_reducible refine And.intro (by omega) ?_) | (with_reducible refine exP (by omega) ?_) | (with_reducible apply And.intro))))
  refine callS.eqT (p62 n h0 h1) (tabH_10 0) (fun _ h => h) ?_
  ((try simp (maxSteps := 4000000) +contextual only [↓ S2, S2, vIte, ↓reduceIte, Int.reduceNe, Nat.reduceEqDiff, reduceCtorEq, Nat.reduceLeDiff, Nat.reduceAdd, Nat.reduceLT, hget_c, hset_c, hdel_c, neN, neA_cons, neA_nil, ]); (repeat (simp only [brGen]; try simp (maxSteps := 4000000) +contextual only [↓ S2, S2, vIte, ↓reduceIte, Int.reduceNe, Nat.reduceEqDiff, reduceCtorEq, Nat.reduceLeDiff, Nat.reduceAdd, Nat.reduceLT, hget_c, hset_c, hdel_c, neN, neA_cons, neA_nil, ])); (try simp +contextual (disch := omega) only [Z2, ]); (repeat' (first | (with_reducible intro h) | (with_reducible refine And.intro (by omega) ?_) | (with_reducible refine exP (by omega) ?_) | (with_reducible apply And.intro))))
set_option maxHeartbeats 2000000 in
theorem w33 (n : Int) (h0 : -9223372036854775808 ≤ n) (h1 : n ≤ 9223372036854775807) : Pure Tryz.prog 33 [I n] (· = .val (mkS (itoa n))) := by
  refine Pure.bor ?_
  by_cases hn : n = 0
  · subst hn
    rw [itoa_0]
    refine gstart mxd i33 rfl (by simp) ?_; simp (maxSteps := 2000000) only [↓ S2, S2, vIte, ↓reduceIte, Int.reduceNe, Nat.reduceEqDiff, reduceCtorEq, Nat.reduceLeDiff, Nat.reduceAdd, Nat.reduceLT]
    ((try simp (maxSteps := 4000000) +contextual only [↓ S2, S2, vIte, ↓reduceIte, Int.reduceNe, Nat.reduceEqDiff, reduceCtorEq, Nat.reduceLeDiff, Nat.reduceAdd, Nat.reduceLT, hget_c, hset_c, hdel_c, neN, neA_cons, neA_nil, ]); (repeat (simp only [brGen]; try simp (maxSteps := 4000000) +contextual only [↓ S2, S2, vIte, ↓reduceIte, Int.reduceNe, Nat.reduceEqDiff, reduceCtorEq, Nat.reduceLeDiff, Nat.reduceAdd, Nat.reduceLT, hget_c, hset_c, hdel_c, neN, neA_cons, neA_nil, ])); (try simp +contextual (disch := omega) only [Z2, ]); (repeat' (first | (with_reducible intro h) | (with_reducible refine And.intro (by omega) ?_) | (with_reducible refine exP (by omega) ?_) | (with_reducible apply And.intro))))
    exact .refl
  have hn' := eq_false hn
  rw [itoa_dgs hn]
  have hlen := dgs_len (u := n.natAbs) (by omega)
  refine gstart mxd i33 rfl (by simp) ?_; simp (maxSteps := 2000000) only [↓ S2, S2, vIte, ↓reduceIte, Int.reduceNe, Nat.reduceEqDiff, reduceCtorEq, Nat.reduceLeDiff, Nat.reduceAdd, Nat.reduceLT]
  ((try simp (maxSteps := 4000000) +contextual only [↓ S2, S2, vIte, ↓reduceIte, Int.reduceNe, Nat.reduceEqDiff, reduceCtorEq, Nat.reduceLeDiff, Nat.reduceAdd, Nat.reduceLT, hget_c, hset_c, hdel_c, neN, neA_cons, neA_nil, hn', decide_false]); (repeat (simp only [brGen]; try simp (maxSteps := 4000000) +contextual only [↓ S2, S2, vIte, ↓reduceIte, Int.reduceNe, Nat.reduceEqDiff, reduceCtorEq, Nat.reduceLeDiff, Nat.reduceAdd, Nat.reduceLT, hget_c, hset_c, hdel_c, neN, neA_cons, neA_nil, hn', decide_false])); (try simp +contextual (disch := omega) only [Z2, hn', decide_false]); (repeat' (first | (with_reducible intro h) | (with_reducible refine And.intro (by omega) ?_) | (with_reducible refine exP (by omega) ?_) | (with_reducible apply And.intro))))
  refine ploop mxd (ι := { x : Int × List UInt8 // x.1.natAbs ≤ n.natAbs ∧ dgs x.1.natAbs ++ x.2 = dgs n.natAbs }) (fun x => [(0, I x.1.1), (3, B (decide (n < 0))), (4, .val (mkS x.1.2))]) (fun _ => []) (fun x => x.1.1.natAbs) ⟨(n, []), by simp⟩ (by simp [E2]) (by simp [subH]) ?_
  rintro ⟨⟨m, out⟩, hm, ho⟩ -
  dsimp only at hm ho ⊢
  by_cases hm0 : m = 0
  · have hm0' := eq_true hm0
    subst hm0
    have ho' : out = dgs n.natAbs := by rw [← ho]; simp [dgs]
    subst ho'
    by_cases hneg : n < 0
    · have hneg' := eq_true hneg
      ((try simp (maxSteps := 4000000) +contextual only [↓ S2, S2, vIte, ↓reduceIte, Int.reduceNe, Nat.reduceEqDiff, reduceCtorEq, Nat.reduceLeDiff, Nat.reduceAdd, Nat.reduceLT, hget_c, hset_c, hdel_c, neN, neA_cons, neA_nil, hneg', decide_true]); (repeat (simp only [brGen]; try simp (maxSteps := 4000000) +contextual only [↓ S2, S2, vIte, ↓reduceIte, Int.reduceNe, Nat.reduceEqDiff, reduceCtorEq, Nat.reduceLeDiff, Nat.reduceAdd, Nat.reduceLT, hget_c, hset_c, hdel_c, neN, neA_cons, neA_nil, hneg', decide_true])); (try simp +contextual (disch := omega) only [Z2, hneg', decide_true]); (repeat' (first | (with_reducible intro h) | (with_reducible refine And.intro (by omega) ?_) | (with_reducible refine exP (by omega) ?_) | (with_reducible apply And.intro))))
      all_goals try (exfalso; omega)
      all_goals first | exact .refl | (simp; omega)
    · have hneg' := eq_false hneg
      ((try simp (maxSteps := 4000000) +contextual only [↓ S2, S2, vIte, ↓reduceIte, Int.reduceNe, Nat.reduceEqDiff, reduceCtorEq, Nat.reduceLeDiff, Nat.reduceAdd, Nat.reduceLT, hget_c, hset_c, hdel_c, neN, neA_cons, neA_nil, hneg', decide_false]); (repeat (simp only [brGen]; try simp (maxSteps := 4000000) +contextual only [↓ S2, S2, vIte, ↓reduceIte, Int.reduceNe, Nat.reduceEqDiff, reduceCtorEq, Nat.reduceLeDiff, Nat.reduceAdd, Nat.reduceLT, hget_c, hset_c, hdel_c, neN, neA_cons, neA_nil, hneg', decide_false])); (try simp +contextual (disch := omega) only [Z2, hneg', decide_false]); (repeat' (first | (with_reducible intro h) | (with_reducible refine And.intro (by omega) ?_) | (with_reducible refine exP (by omega) ?_) | (with_reducible apply And.intro))))
      all_goals try (exfalso; omega)
      exact .refl
  · have hm0' := eq_false hm0
    have hs := dgs_step (u := m.natAbs) (by omega) out
    have hol : out.length ≤ 19 := by have := congrArg List.length ho; simp at this; omega
    have h3 := tmod10 m
    have h4 := tdiv10 m
    by_cases hd : m.tmod 10 < 0
    · have hd' := eq_true hd
      have e1 : 0 - m.tmod 10 = ((m.natAbs % 10 : Nat) : Int) := by rw [if_pos hd] at h3; exact h3
      have e2 := digB _ (mod_lt10 m.natAbs)
      ((try simp (maxSteps := 4000000) +contextual only [↓ S2, S2, vIte, ↓reduceIte, Int.reduceNe, Nat.reduceEqDiff, reduceCtorEq, Nat.reduceLeDiff, Nat.reduceAdd, Nat.reduceLT, hget_c, hset_c, hdel_c, neN, neA_cons, neA_nil, hm0', hd', decide_false, decide_true]); (repeat (simp only [brGen]; try simp (maxSteps := 4000000) +contextual only [↓ S2, S2, vIte, ↓reduceIte, Int.reduceNe, Nat.reduceEqDiff, reduceCtorEq, Nat.reduceLeDiff, Nat.reduceAdd, Nat.reduceLT, hget_c, hset_c, hdel_c, neN, neA_cons, neA_nil, hm0', hd', decide_false, decide_true])); (try simp +contextual (disch := omega) only [Z2, hm0', hd', decide_false, decide_true]); (repeat' (first | (with_reducible intro h) | (with_reducible refine And.intro (by omega) ?_) | (with_reducible refine exP (by omega) ?_) | (with_reducible apply And.intro))))
      all_goals try (exfalso; omega)
      · simp; omega
      · rw [e1, e2]
        refine px ⟨(m.tdiv 10, UInt8.ofNat (48 + m.natAbs % 10) :: out), by dsimp only; omega, by dsimp only; rw [h4, ← hs, ho]⟩ (by dsimp only; omega) (by simp [E2] <;> rfl) (by simp [subH])
    · have hd' := eq_false hd
      have e1 : m.tmod 10 = ((m.natAbs % 10 : Nat) : Int) := by rw [if_neg hd] at h3; exact h3
      have e2 := digB _ (mod_lt10 m.natAbs)
      ((try simp (maxSteps := 4000000) +contextual only [↓ S2, S2, vIte, ↓reduceIte, Int.reduceNe, Nat.reduceEqDiff, reduceCtorEq, Nat.reduceLeDiff, Nat.reduceAdd, Nat.reduceLT, hget_c, hset_c, hdel_c, neN, neA_cons, neA_nil, hm0', hd', decide_false, decide_true]); (repeat (simp only [brGen]; try simp (maxSteps := 4000000) +contextual only [↓ S2, S2, vIte, ↓reduceIte, Int.reduceNe, Nat.reduceEqDiff, reduceCtorEq, Nat.reduceLeDiff, Nat.reduceAdd, Nat.reduceLT, hget_c, hset_c, hdel_c, neN, neA_cons, neA_nil, hm0', hd', decide_false, decide_true])); (try simp +contextual (disch := omega) only [Z2, hm0', hd', decide_false, decide_true]); (repeat' (first | (with_reducible intro h) | (with_reducible refine And.intro (by omega) ?_) | (with_reducible refine exP (by omega) ?_) | (with_reducible apply And.intro))))
      all_goals try (exfalso; omega)
      · simp; omega
      · rw [e1, e2]
        refine px ⟨(m.tdiv 10, UInt8.ofNat (48 + m.natAbs % 10) :: out), by dsimp only; omega, by dsimp only; rw [h4, ← hs, ho]⟩ (by dsimp only; omega) (by simp [E2] <;> rfl) (by simp [subH])
end Go.Proofs.YtbdmpkidcpblaaaGreatDoor

namespace Go.Proofs.YtbdmpkidcpblaaaGreatDoor
open Go.Gh
set_option maxRecDepth 20000
set_option linter.unusedSimpArgs false
set_option linter.unusedVariables false
open Go.Lib
set_option maxHeartbeats 4000000 in
theorem w17 (g : Gram) (t : List Nod) (hg : smGr g) (hl : t.length ≤ 1048576) (hkk : ∀ x ∈ t, x.kids.length ≤ 1048576) {D : Int} (hD : ∀ x ∈ t, ((chars x.rule).length : Int) + 24 ≤ D) (hD2 : D ≤ 4194304) : ∀ (f i : Nat) (p q : Int) (s : ByteArray), 0 ≤ walkE g t f i p q s →
    Pure Tryz.prog 17 [Gr g, Tr t, I i] (· = .val (mkS (txtN g t f i)))
  | 0, i, p, q, s, h => by simp [walkE] at h
  | f + 1, i, p, q, s, h => by
    obtain ⟨hi, hlit, hk, hlen⟩ := walkE_node hD hD2 hl h
    have ih := fun (j : Nat) p q s h => w17 g t hg hl hkk hD hD2 f j p q s h
    have hkn := hkk _ (List.getElem_mem hi)
    simp only [txtN, getD_lt hi] at hlen ⊢
    generalize hn : t[i] = n at *
    obtain ⟨A, hA⟩ : ∃ A : Nat → List UInt8, ∀ j, A j = (n.kids.take j).flatMap fun c => 32 :: txtN g t f c.toNat := ⟨_, fun _ => rfl⟩
    have hA0 : A 0 = [] := by rw [hA]; rfl
    have hAs : ∀ j, ∀ h : j < n.kids.length, A (j + 1) = A j ++ (32 :: txtN g t f n.kids[j].toNat) := fun j h => by rw [hA, hA, fm_st _ _ h]
    have hAe : A n.kids.length = n.kids.flatMap fun c => 32 :: txtN g t f c.toNat := by rw [hA, List.take_length]
    have hAl : ∀ j, (A j).length ≤ (n.kids.flatMap fun c => 32 :: txtN g t f c.toNat).length := fun j => by rw [hA]; exact fm_len _ _ j
    rw [← hAe] at hlen ⊢
    rw [← hAe] at hAl
    simp only [List.length_append, List.length_cons, List.length_nil] at hlen
    have hil := itoa_len (n := n.lit) (by omega) (by omega)
    have hsz : n.rule.size = (chars n.rule).length := size_chars _
    clear hA h
    refine gstart mxd i17 rfl (by simp) ?_; simp (maxSteps := 2000000) only [↓ S2, S2, vIte, ↓reduceIte, Int.reduceNe, Nat.reduceEqDiff, reduceCtorEq, Nat.reduceLeDiff, Nat.reduceAdd, Nat.reduceLT]
    ((try simp (maxSteps := 4000000) +contextual only [↓ S2, S2, vIte, ↓reduceIte, Int.reduceNe, Nat.reduceEqDiff, reduceCtorEq, Nat.reduceLeDiff, Nat.reduceAdd, Nat.reduceLT, hget_c, hset_c, hdel_c, neN, neA_cons, neA_nil, hn]); (repeat (simp only [brGen]; try simp (maxSteps := 4000000) +contextual only [↓ S2, S2, vIte, ↓reduceIte, Int.reduceNe, Nat.reduceEqDiff, reduceCtorEq, Nat.reduceLeDiff, Nat.reduceAdd, Nat.reduceLT, hget_c, hset_c, hdel_c, neN, neA_cons, neA_nil, hn])); (try simp +contextual (disch := omega) only [Z2, hn]); (repeat' (first | (with_reducible intro h) | (with_reducible refine And.intro (by omega) ?_) | (with_reducible refine exP (by omega) ?_) | (with_reducible apply And.intro))))
    all_goals try (exfalso; omega)
    all_goals try (with_reducible refine lenOK ?_; simp; omega)
    refine callS.eq (w32 g _ hg) ?_
    generalize fRul g.rules n.rule = r at *
    rcases (Bool.eq_false_or_eq_true r.lit).symm with hr | hr
    · simp only [hr, Bool.false_eq_true, if_false, List.append_nil] at hlen ⊢
      ((try simp (maxSteps := 4000000) +contextual only [↓ S2, S2, vIte, ↓reduceIte, Int.reduceNe, Nat.reduceEqDiff, reduceCtorEq, Nat.reduceLeDiff, Nat.reduceAdd, Nat.reduceLT, hget_c, hset_c, hdel_c, neN, neA_cons, neA_nil, hr]); (repeat (simp only [brGen]; try simp (maxSteps := 4000000) +contextual only [↓ S2, S2, vIte, ↓reduceIte, Int.reduceNe, Nat.reduceEqDiff, reduceCtorEq, Nat.reduceLeDiff, Nat.reduceAdd, Nat.reduceLT, hget_c, hset_c, hdel_c, neN, neA_cons, neA_nil, hr])); (try simp +contextual (disch := omega) only [Z2, hr]); (repeat' (first | (with_reducible intro h) | (with_reducible refine And.intro (by omega) ?_) | (with_reducible refine exP (by omega) ?_) | (with_reducible apply And.intro))))
      all_goals try (exfalso; omega)
      all_goals try (with_reducible refine lenOK ?_; simp; omega)
      refine wloop mxd (ι := { j : Nat // j ≤ n.kids.length }) (fun j => [(3, .rop 2 (Gr g)), (4, .rop 1 (Tr t)), (7, .rop 6 (Nd n)), (10, .val (mkS ((40 :: chars n.rule) ++ A j.1))), (11, I j.1)]) (fun _ => []) (fun j => n.kids.length - j.1) ⟨0, by simp⟩ (by simp [E2, hA0] <;> first | rfl | (simp only [chk]; simp; done)) rfl ?_
      rintro ⟨j, hj⟩
      dsimp only at hj ⊢
      have hjl := hAl j
      rcases Nat.lt_or_ge j n.kids.length with hlt | hge
      · obtain ⟨b, hb, p', q', s', hw⟩ := hk _ (List.getElem_mem hlt)
        have hstep := hAs j hlt
        have hjl2 := hAl (j + 1)
        rw [hb, Int.toNat_natCast] at hstep
        have hc := ih b p' q' s' hw
        generalize txtN g t f b = X at *
        rw [hstep] at hjl2
        simp only [List.length_append, List.length_cons] at hjl2
        ((try simp (maxSteps := 4000000) +contextual only [↓ S2, S2, vIte, ↓reduceIte, Int.reduceNe, Nat.reduceEqDiff, reduceCtorEq, Nat.reduceLeDiff, Nat.reduceAdd, Nat.reduceLT, hget_c, hset_c, hdel_c, neN, neA_cons, neA_nil, hb]); (repeat (simp only [brGen]; try simp (maxSteps := 4000000) +contextual only [↓ S2, S2, vIte, ↓reduceIte, Int.reduceNe, Nat.reduceEqDiff, reduceCtorEq, Nat.reduceLeDiff, Nat.reduceAdd, Nat.reduceLT, hget_c, hset_c, hdel_c, neN, neA_cons, neA_nil, hb])); (try simp +contextual (disch := omega) only [Z2, hb]); (repeat' (first | (with_reducible intro h) | (with_reducible refine And.intro (by omega) ?_) | (with_reducible refine exP (by omega) ?_) | (with_reducible apply And.intro))))
        all_goals try (exfalso; omega)
        all_goals try (with_reducible refine lenOK ?_; simp; omega)
        refine callS.eq (hc) ?_
        ((try simp (maxSteps := 4000000) +contextual only [↓ S2, S2, vIte, ↓reduceIte, Int.reduceNe, Nat.reduceEqDiff, reduceCtorEq, Nat.reduceLeDiff, Nat.reduceAdd, Nat.reduceLT, hget_c, hset_c, hdel_c, neN, neA_cons, neA_nil, ]); (repeat (simp only [brGen]; try simp (maxSteps := 4000000) +contextual only [↓ S2, S2, vIte, ↓reduceIte, Int.reduceNe, Nat.reduceEqDiff, reduceCtorEq, Nat.reduceLeDiff, Nat.reduceAdd, Nat.reduceLT, hget_c, hset_c, hdel_c, neN, neA_cons, neA_nil, ])); (try simp +contextual (disch := omega) only [Z2, ]); (repeat' (first | (with_reducible intro h) | (with_reducible refine And.intro (by omega) ?_) | (with_reducible refine exP (by omega) ?_) | (with_reducible apply And.intro))))
        all_goals try (exfalso; omega)
        all_goals try (with_reducible refine lenOK ?_; simp; omega)
        all_goals first
          | exact nx ⟨j + 1, by omega⟩ (by simp; omega) (by simp [E2, hstep] <;> first | rfl | (simp only [chk]; simp; done)) rfl
          | (simp; omega)
      · obtain rfl : j = n.kids.length := by omega
        ((try simp (maxSteps := 4000000) +contextual only [↓ S2, S2, vIte, ↓reduceIte, Int.reduceNe, Nat.reduceEqDiff, reduceCtorEq, Nat.reduceLeDiff, Nat.reduceAdd, Nat.reduceLT, hget_c, hset_c, hdel_c, neN, neA_cons, neA_nil, ]); (repeat (simp only [brGen]; try simp (maxSteps := 4000000) +contextual only [↓ S2, S2, vIte, ↓reduceIte, Int.reduceNe, Nat.reduceEqDiff, reduceCtorEq, Nat.reduceLeDiff, Nat.reduceAdd, Nat.reduceLT, hget_c, hset_c, hdel_c, neN, neA_cons, neA_nil, ])); (try simp +contextual (disch := omega) only [Z2, ]); (repeat' (first | (with_reducible intro h) | (with_reducible refine And.intro (by omega) ?_) | (with_reducible refine exP (by omega) ?_) | (with_reducible apply And.intro))))
        all_goals try (exfalso; omega)
        all_goals try (with_reducible refine lenOK ?_; simp; omega)
        all_goals first | (simp; done) | (simp; omega) | (simp only [chk]; simp; done)
    · simp only [hr, if_true] at hlen ⊢
      have hf := w33 n.lit (by omega) (by omega)
      generalize itoa n.lit = d at *
      simp only [List.length_append, List.length_cons, List.length_nil] at hlen
      ((try simp (maxSteps := 4000000) +contextual only [↓ S2, S2, vIte, ↓reduceIte, Int.reduceNe, Nat.reduceEqDiff, reduceCtorEq, Nat.reduceLeDiff, Nat.reduceAdd, Nat.reduceLT, hget_c, hset_c, hdel_c, neN, neA_cons, neA_nil, hr]); (repeat (simp only [brGen]; try simp (maxSteps := 4000000) +contextual only [↓ S2, S2, vIte, ↓reduceIte, Int.reduceNe, Nat.reduceEqDiff, reduceCtorEq, Nat.reduceLeDiff, Nat.reduceAdd, Nat.reduceLT, hget_c, hset_c, hdel_c, neN, neA_cons, neA_nil, hr])); (try simp +contextual (disch := omega) only [Z2, hr]); (repeat' (first | (with_reducible intro h) | (with_reducible refine And.intro (by omega) ?_) | (with_reducible refine exP (by omega) ?_) | (with_reducible apply And.intro))))
      all_goals try (exfalso; omega)
      all_goals try (with_reducible refine lenOK ?_; simp; omega)
      refine callS.eq (hf) ?_
      ((try simp (maxSteps := 4000000) +contextual only [↓ S2, S2, vIte, ↓reduceIte, Int.reduceNe, Nat.reduceEqDiff, reduceCtorEq, Nat.reduceLeDiff, Nat.reduceAdd, Nat.reduceLT, hget_c, hset_c, hdel_c, neN, neA_cons, neA_nil, ]); (repeat (simp only [brGen]; try simp (maxSteps := 4000000) +contextual only [↓ S2, S2, vIte, ↓reduceIte, Int.reduceNe, Nat.reduceEqDiff, reduceCtorEq, Nat.reduceLeDiff, Nat.reduceAdd, Nat.reduceLT, hget_c, hset_c, hdel_c, neN, neA_cons, neA_nil, ])); (try simp +contextual (disch := omega) only [Z2, ]); (repeat' (first | (with_reducible intro h) | (with_reducible refine And.intro (by omega) ?_) | (with_reducible refine exP (by omega) ?_) | (with_reducible apply And.intro))))
      all_goals try (exfalso; omega)
      all_goals try (with_reducible refine lenOK ?_; simp; omega)
      refine wloop mxd (ι := { j : Nat // j ≤ n.kids.length }) (fun j => [(3, .rop 2 (Gr g)), (4, .rop 1 (Tr t)), (7, .rop 6 (Nd n)), (10, .val (mkS (((40 :: chars n.rule) ++ 32 :: d) ++ A j.1))), (11, I j.1)]) (fun _ => []) (fun j => n.kids.length - j.1) ⟨0, by simp⟩ (by simp [E2, hA0] <;> first | rfl | (simp only [chk]; simp; done)) rfl ?_
      rintro ⟨j, hj⟩
      dsimp only at hj ⊢
      have hjl := hAl j
      rcases Nat.lt_or_ge j n.kids.length with hlt | hge
      · obtain ⟨b, hb, p', q', s', hw⟩ := hk _ (List.getElem_mem hlt)
        have hstep := hAs j hlt
        have hjl2 := hAl (j + 1)
        rw [hb, Int.toNat_natCast] at hstep
        have hc := ih b p' q' s' hw
        generalize txtN g t f b = X at *
        rw [hstep] at hjl2
        simp only [List.length_append, List.length_cons] at hjl2
        ((try simp (maxSteps := 4000000) +contextual only [↓ S2, S2, vIte, ↓reduceIte, Int.reduceNe, Nat.reduceEqDiff, reduceCtorEq, Nat.reduceLeDiff, Nat.reduceAdd, Nat.reduceLT, hget_c, hset_c, hdel_c, neN, neA_cons, neA_nil, hb]); (repeat (simp only [brGen]; try simp (maxSteps := 4000000) +contextual only [↓ S2, S2, vIte, ↓reduceIte, Int.reduceNe, Nat.reduceEqDiff, reduceCtorEq, Nat.reduceLeDiff, Nat.reduceAdd, Nat.reduceLT, hget_c, hset_c, hdel_c, neN, neA_cons, neA_nil, hb])); (try simp +contextual (disch := omega) only [Z2, hb]); (repeat' (first | (with_reducible intro h) | (with_reducible refine And.intro (by omega) ?_) | (with_reducible refine exP (by omega) ?_) | (with_reducible apply And.intro))))
        all_goals try (exfalso; omega)
        all_goals try (with_reducible refine lenOK ?_; simp; omega)
        refine callS.eq (hc) ?_
        ((try simp (maxSteps := 4000000) +contextual only [↓ S2, S2, vIte, ↓reduceIte, Int.reduceNe, Nat.reduceEqDiff, reduceCtorEq, Nat.reduceLeDiff, Nat.reduceAdd, Nat.reduceLT, hget_c, hset_c, hdel_c, neN, neA_cons, neA_nil, ]); (repeat (simp only [brGen]; try simp (maxSteps := 4000000) +contextual only [↓ S2, S2, vIte, ↓reduceIte, Int.reduceNe, Nat.reduceEqDiff, reduceCtorEq, Nat.reduceLeDiff, Nat.reduceAdd, Nat.reduceLT, hget_c, hset_c, hdel_c, neN, neA_cons, neA_nil, ])); (try simp +contextual (disch := omega) only [Z2, ]); (repeat' (first | (with_reducible intro h) | (with_reducible refine And.intro (by omega) ?_) | (with_reducible refine exP (by omega) ?_) | (with_reducible apply And.intro))))
        all_goals try (exfalso; omega)
        all_goals try (with_reducible refine lenOK ?_; simp; omega)
        all_goals first
          | exact nx ⟨j + 1, by omega⟩ (by simp; omega) (by simp [E2, hstep] <;> first | rfl | (simp only [chk]; simp; done)) rfl
          | (simp; omega)
      · obtain rfl : j = n.kids.length := by omega
        ((try simp (maxSteps := 4000000) +contextual only [↓ S2, S2, vIte, ↓reduceIte, Int.reduceNe, Nat.reduceEqDiff, reduceCtorEq, Nat.reduceLeDiff, Nat.reduceAdd, Nat.reduceLT, hget_c, hset_c, hdel_c, neN, neA_cons, neA_nil, ]); (repeat (simp only [brGen]; try simp (maxSteps := 4000000) +contextual only [↓ S2, S2, vIte, ↓reduceIte, Int.reduceNe, Nat.reduceEqDiff, reduceCtorEq, Nat.reduceLeDiff, Nat.reduceAdd, Nat.reduceLT, hget_c, hset_c, hdel_c, neN, neA_cons, neA_nil, ])); (try simp +contextual (disch := omega) only [Z2, ]); (repeat' (first | (with_reducible intro h) | (with_reducible refine And.intro (by omega) ?_) | (with_reducible refine exP (by omega) ?_) | (with_reducible apply And.intro))))
        all_goals try (exfalso; omega)
        all_goals try (with_reducible refine lenOK ?_; simp; omega)
        all_goals first | (simp; done) | (simp; omega) | (simp only [chk]; simp; done)
set_option maxHeartbeats 4000000 in
theorem p22 (g : Gram) (t : List Nod) (hg : smGr g) (hl : t.length ≤ 1048576) (hkk : ∀ x ∈ t, x.kids.length ≤ 1048576) {D : Int} (hD : ∀ x ∈ t, ((chars x.rule).length : Int) + 24 ≤ D) (hD2 : D ≤ 4194304) : ∀ (f i : Nat) (p q : Int) (s : ByteArray), 0 ≤ walkE g t f i p q s →
    PureT Tryz.prog (tab10 0) 22 [Gr g, Tr t, I i] (· = .val (mkS (txtN g t f i)))
  | 0, i, p, q, s, h => by simp [walkE] at h
  | f + 1, i, p, q, s, h => by
    obtain ⟨hi, hlit, hk, hlen⟩ := walkE_node hD hD2 hl h
    have ih := fun (j : Nat) p q s h => p22 g t hg hl hkk hD hD2 f j p q s h
    have hkn := hkk _ (List.getElem_mem hi)
    simp only [txtN, getD_lt hi] at hlen ⊢
    generalize hn : t[i] = n at *
    obtain ⟨A, hA⟩ : ∃ A : Nat → List UInt8, ∀ j, A j = (n.kids.take j).flatMap fun c => 32 :: txtN g t f c.toNat := ⟨_, fun _ => rfl⟩
    have hA0 : A 0 = [] := by rw [hA]; rfl
    have hAs : ∀ j, ∀ h : j < n.kids.length, A (j + 1) = A j ++ (32 :: txtN g t f n.kids[j].toNat) := fun j h => by rw [hA, hA, fm_st _ _ h]
    have hAe : A n.kids.length = n.kids.flatMap fun c => 32 :: txtN g t f c.toNat := by rw [hA, List.take_length]
    have hAl : ∀ j, (A j).length ≤ (n.kids.flatMap fun c => 32 :: txtN g t f c.toNat).length := fun j => by rw [hA]; exact fm_len _ _ j
    rw [← hAe] at hlen ⊢
    rw [← hAe] at hAl
    simp only [List.length_append, List.length_cons, List.length_nil] at hlen
    have hil := itoa_len (n := n.lit) (by omega) (by omega)
    have hsz : n.rule.size = (chars n.rule).length := size_chars _
    clear hA h
    refine gstart mxd i22 rfl (by simp) ?_; simp (maxSteps := 2000000) only [↓ S2, S2, vIte, ↓reduceIte, Int.reduceNe, Nat.reduceEqDiff, reduceCtorEq, Nat.reduceLeDiff, Nat.reduceAdd, Nat.reduceLT]
    ((try simp (maxSteps := 4000000) +contextual only [↓ S2, S2, vIte, ↓reduceIte, Int.reduceNe, Nat.reduceEqDiff, reduceCtorEq, Nat.reduceLeDiff, Nat.reduceAdd, Nat.reduceLT, hget_c, hset_c, hdel_c, neN, neA_cons, neA_nil, hn]); (repeat (simp only [brGen]; try simp (maxSteps := 4000000) +contextual only [↓ S2, S2, vIte, ↓reduceIte, Int.reduceNe, Nat.reduceEqDiff, reduceCtorEq, Nat.reduceLeDiff, Nat.reduceAdd, Nat.reduceLT, hget_c, hset_c, hdel_c, neN, neA_cons, neA_nil, hn])); (try simp +contextual (disch := omega) only [Z2, hn]); (repeat' (first | (with_reducible intro h) | (with_reducible refine And.intro (by omega) ?_) | (with_reducible refine exP (by omega) ?_) | (with_reducible apply And.intro))))
    all_goals try (exfalso; omega)
    all_goals try (with_reducible refine lenOK ?_; simp; omega)
    refine callS.eq (w39 g _ hg) ?_
    generalize fRul g.rules n.rule = r at *
    rcases (Bool.eq_false_or_eq_true r.lit).symm with hr | hr
    · simp only [hr, Bool.false_eq_true, if_false, List.append_nil] at hlen ⊢
      ((try simp (maxSteps := 4000000) +contextual only [↓ S2, S2, vIte, ↓reduceIte, Int.reduceNe, Nat.reduceEqDiff, reduceCtorEq, Nat.reduceLeDiff, Nat.reduceAdd, Nat.reduceLT, hget_c, hset_c, hdel_c, neN, neA_cons, neA_nil, hr]); (repeat (simp only [brGen]; try simp (maxSteps := 4000000) +contextual only [↓ S2, S2, vIte, ↓reduceIte, Int.reduceNe, Nat.reduceEqDiff, reduceCtorEq, Nat.reduceLeDiff, Nat.reduceAdd, Nat.reduceLT, hget_c, hset_c, hdel_c, neN, neA_cons, neA_nil, hr])); (try simp +contextual (disch := omega) only [Z2, hr]); (repeat' (first | (with_reducible intro h) | (with_reducible refine And.intro (by omega) ?_) | (with_reducible refine exP (by omega) ?_) | (with_reducible apply And.intro))))
      all_goals try (exfalso; omega)
      all_goals try (with_reducible refine lenOK ?_; simp; omega)
      refine wloop mxd (ι := { j : Nat // j ≤ n.kids.length }) (fun j => [(3, .rop 2 (Gr g)), (4, .rop 1 (Tr t)), (8, .val (mkS ((40 :: chars n.rule) ++ A j.1))), (37, IS n.kids), (38, I n.kids.length), (39, I j.1)]) (fun _ => tab10 0) (fun j => n.kids.length - j.1) ⟨0, by simp⟩ (by simp [E2, hA0] <;> first | rfl | (simp only [chk]; simp; done)) rfl ?_
      rintro ⟨j, hj⟩
      dsimp only at hj ⊢
      have hjl := hAl j
      rcases Nat.lt_or_ge j n.kids.length with hlt | hge
      · obtain ⟨b, hb, p', q', s', hw⟩ := hk _ (List.getElem_mem hlt)
        have hstep := hAs j hlt
        have hjl2 := hAl (j + 1)
        rw [hb, Int.toNat_natCast] at hstep
        have hc := ih b p' q' s' hw
        generalize txtN g t f b = X at *
        rw [hstep] at hjl2
        simp only [List.length_append, List.length_cons] at hjl2
        ((try simp (maxSteps := 4000000) +contextual only [↓ S2, S2, vIte, ↓reduceIte, Int.reduceNe, Nat.reduceEqDiff, reduceCtorEq, Nat.reduceLeDiff, Nat.reduceAdd, Nat.reduceLT, hget_c, hset_c, hdel_c, neN, neA_cons, neA_nil, hb]); (repeat (simp only [brGen]; try simp (maxSteps := 4000000) +contextual only [↓ S2, S2, vIte, ↓reduceIte, Int.reduceNe, Nat.reduceEqDiff, reduceCtorEq, Nat.reduceLeDiff, Nat.reduceAdd, Nat.reduceLT, hget_c, hset_c, hdel_c, neN, neA_cons, neA_nil, hb])); (try simp +contextual (disch := omega) only [Z2, hb]); (repeat' (first | (with_reducible intro h) | (with_reducible refine And.intro (by omega) ?_) | (with_reducible refine exP (by omega) ?_) | (with_reducible apply And.intro))))
        all_goals try (exfalso; omega)
        all_goals try (with_reducible refine lenOK ?_; simp; omega)
        refine callS.eqT (hc) (tabH_10 0) (fun _ h => h) ?_
        ((try simp (maxSteps := 4000000) +contextual only [↓ S2, S2, vIte, ↓reduceIte, Int.reduceNe, Nat.reduceEqDiff, reduceCtorEq, Nat.reduceLeDiff, Nat.reduceAdd, Nat.reduceLT, hget_c, hset_c, hdel_c, neN, neA_cons, neA_nil, ]); (repeat (simp only [brGen]; try simp (maxSteps := 4000000) +contextual only [↓ S2, S2, vIte, ↓reduceIte, Int.reduceNe, Nat.reduceEqDiff, reduceCtorEq, Nat.reduceLeDiff, Nat.reduceAdd, Nat.reduceLT, hget_c, hset_c, hdel_c, neN, neA_cons, neA_nil, ])); (try simp +contextual (disch := omega) only [Z2, ]); (repeat' (first | (with_reducible intro h) | (with_reducible refine And.intro (by omega) ?_) | (with_reducible refine exP (by omega) ?_) | (with_reducible apply And.intro))))
        all_goals try (exfalso; omega)
        all_goals try (with_reducible refine lenOK ?_; simp; omega)
        all_goals first
          | exact nx ⟨j + 1, by omega⟩ (by simp; omega) (by simp [E2, hstep] <;> first | rfl | (simp only [chk]; simp; done)) rfl
          | (simp; omega)
      · obtain rfl : j = n.kids.length := by omega
        ((try simp (maxSteps := 4000000) +contextual only [↓ S2, S2, vIte, ↓reduceIte, Int.reduceNe, Nat.reduceEqDiff, reduceCtorEq, Nat.reduceLeDiff, Nat.reduceAdd, Nat.reduceLT, hget_c, hset_c, hdel_c, neN, neA_cons, neA_nil, ]); (repeat (simp only [brGen]; try simp (maxSteps := 4000000) +contextual only [↓ S2, S2, vIte, ↓reduceIte, Int.reduceNe, Nat.reduceEqDiff, reduceCtorEq, Nat.reduceLeDiff, Nat.reduceAdd, Nat.reduceLT, hget_c, hset_c, hdel_c, neN, neA_cons, neA_nil, ])); (try simp +contextual (disch := omega) only [Z2, ]); (repeat' (first | (with_reducible intro h) | (with_reducible refine And.intro (by omega) ?_) | (with_reducible refine exP (by omega) ?_) | (with_reducible apply And.intro))))
        all_goals try (exfalso; omega)
        all_goals try (with_reducible refine lenOK ?_; simp; omega)
        all_goals first | (simp; done) | (simp; omega) | (simp only [chk]; simp; done)
    · simp only [hr, if_true] at hlen ⊢
      have hf := p40 n.lit (by omega) (by omega)
      generalize itoa n.lit = d at *
      simp only [List.length_append, List.length_cons, List.length_nil] at hlen
      ((try simp (maxSteps := 4000000) +contextual only [↓ S2, S2, vIte, ↓reduceIte, Int.reduceNe, Nat.reduceEqDiff, reduceCtorEq, Nat.reduceLeDiff, Nat.reduceAdd, Nat.reduceLT, hget_c, hset_c, hdel_c, neN, neA_cons, neA_nil, hr]); (repeat (simp only [brGen]; try simp (maxSteps := 4000000) +contextual only [↓ S2, S2, vIte, ↓reduceIte, Int.reduceNe, Nat.reduceEqDiff, reduceCtorEq, Nat.reduceLeDiff, Nat.reduceAdd, Nat.reduceLT, hget_c, hset_c, hdel_c, neN, neA_cons, neA_nil, hr])); (try simp +contextual (disch := omega) only [Z2, hr]); (repeat' (first | (with_reducible intro h) | (with_reducible refine And.intro (by omega) ?_) | (with_reducible refine exP (by omega) ?_) | (with_reducible apply And.intro))))
      all_goals try (exfalso; omega)
      all_goals try (with_reducible refine lenOK ?_; simp; omega)
      refine callS.eqT (hf) (tabH_10 0) (fun _ h => h) ?_
      ((try simp (maxSteps := 4000000) +contextual only [↓ S2, S2, vIte, ↓reduceIte, Int.reduceNe, Nat.reduceEqDiff, reduceCtorEq, Nat.reduceLeDiff, Nat.reduceAdd, Nat.reduceLT, hget_c, hset_c, hdel_c, neN, neA_cons, neA_nil, ]); (repeat (simp only [brGen]; try simp (maxSteps := 4000000) +contextual only [↓ S2, S2, vIte, ↓reduceIte, Int.reduceNe, Nat.reduceEqDiff, reduceCtorEq, Nat.reduceLeDiff, Nat.reduceAdd, Nat.reduceLT, hget_c, hset_c, hdel_c, neN, neA_cons, neA_nil, ])); (try simp +contextual (disch := omega) only [Z2, ]); (repeat' (first | (with_reducible intro h) | (with_reducible refine And.intro (by omega) ?_) | (with_reducible refine exP (by omega) ?_) | (with_reducible apply And.intro))))
      all_goals try (exfalso; omega)
      all_goals try (with_reducible refine lenOK ?_; simp; omega)
      refine wloop mxd (ι := { j : Nat // j ≤ n.kids.length }) (fun j => [(3, .rop 2 (Gr g)), (4, .rop 1 (Tr t)), (8, .val (mkS (((40 :: chars n.rule) ++ 32 :: d) ++ A j.1))), (37, IS n.kids), (38, I n.kids.length), (39, I j.1)]) (fun _ => tab10 0) (fun j => n.kids.length - j.1) ⟨0, by simp⟩ (by simp [E2, hA0] <;> first | rfl | (simp only [chk]; simp; done)) rfl ?_
      rintro ⟨j, hj⟩
      dsimp only at hj ⊢
      have hjl := hAl j
      rcases Nat.lt_or_ge j n.kids.length with hlt | hge
      · obtain ⟨b, hb, p', q', s', hw⟩ := hk _ (List.getElem_mem hlt)
        have hstep := hAs j hlt
        have hjl2 := hAl (j + 1)
        rw [hb, Int.toNat_natCast] at hstep
        have hc := ih b p' q' s' hw
        generalize txtN g t f b = X at *
        rw [hstep] at hjl2
        simp only [List.length_append, List.length_cons] at hjl2
        ((try simp (maxSteps := 4000000) +contextual only [↓ S2, S2, vIte, ↓reduceIte, Int.reduceNe, Nat.reduceEqDiff, reduceCtorEq, Nat.reduceLeDiff, Nat.reduceAdd, Nat.reduceLT, hget_c, hset_c, hdel_c, neN, neA_cons, neA_nil, hb]); (repeat (simp only [brGen]; try simp (maxSteps := 4000000) +contextual only [↓ S2, S2, vIte, ↓reduceIte, Int.reduceNe, Nat.reduceEqDiff, reduceCtorEq, Nat.reduceLeDiff, Nat.reduceAdd, Nat.reduceLT, hget_c, hset_c, hdel_c, neN, neA_cons, neA_nil, hb])); (try simp +contextual (disch := omega) only [Z2, hb]); (repeat' (first | (with_reducible intro h) | (with_reducible refine And.intro (by omega) ?_) | (with_reducible refine exP (by omega) ?_) | (with_reducible apply And.intro))))
        all_goals try (exfalso; omega)
        all_goals try (with_reducible refine lenOK ?_; simp; omega)
        refine callS.eqT (hc) (tabH_10 0) (fun _ h => h) ?_
        ((try simp (maxSteps := 4000000) +contextual only [↓ S2, S2, vIte, ↓reduceIte, Int.reduceNe, Nat.reduceEqDiff, reduceCtorEq, Nat.reduceLeDiff, Nat.reduceAdd, Nat.reduceLT, hget_c, hset_c, hdel_c, neN, neA_cons, neA_nil, ]); (repeat (simp only [brGen]; try simp (maxSteps := 4000000) +contextual only [↓ S2, S2, vIte, ↓reduceIte, Int.reduceNe, Nat.reduceEqDiff, reduceCtorEq, Nat.reduceLeDiff, Nat.reduceAdd, Nat.reduceLT, hget_c, hset_c, hdel_c, neN, neA_cons, neA_nil, ])); (try simp +contextual (disch := omega) only [Z2, ]); (repeat' (first | (with_reducible intro h) | (with_reducible refine And.intro (by omega) ?_) | (with_reducible refine exP (by omega) ?_) | (with_reducible apply And.intro))))
        all_goals try (exfalso; omega)
        all_goals try (with_reducible refine lenOK ?_; simp; omega)
        all_goals first
          | exact nx ⟨j + 1, by omega⟩ (by simp; omega) (by simp [E2, hstep] <;> first | rfl | (simp only [chk]; simp; done)) rfl
          | (simp; omega)
      · obtain rfl : j = n.kids.length := by omega
        ((try simp (maxSteps := 4000000) +contextual only [↓ S2, S2, vIte, ↓reduceIte, Int.reduceNe, Nat.reduceEqDiff, reduceCtorEq, Nat.reduceLeDiff, Nat.reduceAdd, Nat.reduceLT, hget_c, hset_c, hdel_c, neN, neA_cons, neA_nil, ]); (repeat (simp only [brGen]; try simp (maxSteps := 4000000) +contextual only [↓ S2, S2, vIte, ↓reduceIte, Int.reduceNe, Nat.reduceEqDiff, reduceCtorEq, Nat.reduceLeDiff, Nat.reduceAdd, Nat.reduceLT, hget_c, hset_c, hdel_c, neN, neA_cons, neA_nil, ])); (try simp +contextual (disch := omega) only [Z2, ]); (repeat' (first | (with_reducible intro h) | (with_reducible refine And.intro (by omega) ?_) | (with_reducible refine exP (by omega) ?_) | (with_reducible apply And.intro))))
        all_goals try (exfalso; omega)
        all_goals try (with_reducible refine lenOK ?_; simp; omega)
        all_goals first | (simp; done) | (simp; omega) | (simp only [chk]; simp; done)
end Go.Proofs.YtbdmpkidcpblaaaGreatDoor

namespace Go.Proofs.YtbdmpkidcpblaaaGreatDoor
open Go.Gh
set_option maxRecDepth 20000
set_option linter.unusedSimpArgs false
set_option linter.unusedVariables false
open Go.Lib
def fmtT (g : Gram) (t : List Nod) : List UInt8 := if treeOf g t (symN g t 0) = true then txtN g t t.length 0 else []
theorem w6 (g : Gram) (t : List Nod) (hg : smGr g) (hl : t.length ≤ 1048576) (hkk : ∀ x ∈ t, x.kids.length ≤ 1048576) (hr : ∀ x ∈ t, (chars x.rule).length ≤ 1048576) : Pure Tryz.prog 6 [Gr g, Tr t] (· = .val (mkS (fmtT g t))) := by
  unfold fmtT
  have hst := w15 g t (symN g t 0) hg hl hkk
  have htx : treeOf g t (symN g t 0) = true → Pure Tryz.prog 17 [Gr g, Tr t, I 0] (· = .val (mkS (txtN g t t.length 0))) := fun h => by
    obtain ⟨_, _, h1⟩ := treeOf_parts h
    exact w17 g t hg hl hkk (D := 1048600) (fun x hx => by have := hr x hx; omega) (by omega) t.length 0 (-1) 0 (symN g t 0) (by omega)
  generalize treeOf g t (symN g t 0) = b at *
  refine gstart mxd i6 rfl (by simp) ?_; simp (maxSteps := 2000000) only [↓ S2, S2, vIte, ↓reduceIte, Int.reduceNe, Nat.reduceEqDiff, reduceCtorEq, Nat.reduceLeDiff, Nat.reduceAdd, Nat.reduceLT]
  ((try simp (maxSteps := 4000000) +contextual only [↓ S2, S2, vIte, ↓reduceIte, Int.reduceNe, Nat.reduceEqDiff, reduceCtorEq, Nat.reduceLeDiff, Nat.reduceAdd, Nat.reduceLT, hget_c, hset_c, hdel_c, neN, neA_cons, neA_nil, ]); (repeat (simp only [brGen]; try simp (maxSteps := 4000000) +contextual only [↓ S2, S2, vIte, ↓reduceIte, Int.reduceNe, Nat.reduceEqDiff, reduceCtorEq, Nat.reduceLeDiff, Nat.reduceAdd, Nat.reduceLT, hget_c, hset_c, hdel_c, neN, neA_cons, neA_nil, ])); (try simp +contextual (disch := omega) only [Z2, ]); (repeat' (first | (with_reducible intro h) | (with_reducible refine And.intro (by omega) ?_) | (with_reducible refine exP (by omega) ?_) | (with_reducible apply And.intro))))
  refine callS.eq (w16 g t 0 hg) ?_
  ((try simp (maxSteps := 4000000) +contextual only [↓ S2, S2, vIte, ↓reduceIte, Int.reduceNe, Nat.reduceEqDiff, reduceCtorEq, Nat.reduceLeDiff, Nat.reduceAdd, Nat.reduceLT, hget_c, hset_c, hdel_c, neN, neA_cons, neA_nil, ]); (repeat (simp only [brGen]; try simp (maxSteps := 4000000) +contextual only [↓ S2, S2, vIte, ↓reduceIte, Int.reduceNe, Nat.reduceEqDiff, reduceCtorEq, Nat.reduceLeDiff, Nat.reduceAdd, Nat.reduceLT, hget_c, hset_c, hdel_c, neN, neA_cons, neA_nil, ])); (try simp +contextual (disch := omega) only [Z2, ]); (repeat' (first | (with_reducible intro h) | (with_reducible refine And.intro (by omega) ?_) | (with_reducible refine exP (by omega) ?_) | (with_reducible apply And.intro))))
  refine callS.eq hst ?_
  rcases (Bool.eq_false_or_eq_true b).symm with hb | hb
  · simp only [hb, Bool.false_eq_true, if_false]
    ((try simp (maxSteps := 4000000) +contextual only [↓ S2, S2, vIte, ↓reduceIte, Int.reduceNe, Nat.reduceEqDiff, reduceCtorEq, Nat.reduceLeDiff, Nat.reduceAdd, Nat.reduceLT, hget_c, hset_c, hdel_c, neN, neA_cons, neA_nil, ]); (repeat (simp only [brGen]; try simp (maxSteps := 4000000) +contextual only [↓ S2, S2, vIte, ↓reduceIte, Int.reduceNe, Nat.reduceEqDiff, reduceCtorEq, Nat.reduceLeDiff, Nat.reduceAdd, Nat.reduceLT, hget_c, hset_c, hdel_c, neN, neA_cons, neA_nil, ])); (try simp +contextual (disch := omega) only [Z2, ]); (repeat' (first | (with_reducible intro h) | (with_reducible refine And.intro (by omega) ?_) | (with_reducible refine exP (by omega) ?_) | (with_reducible apply And.intro))))
  · have hx := htx hb
    simp only [hb, if_true]
    ((try simp (maxSteps := 4000000) +contextual only [↓ S2, S2, vIte, ↓reduceIte, Int.reduceNe, Nat.reduceEqDiff, reduceCtorEq, Nat.reduceLeDiff, Nat.reduceAdd, Nat.reduceLT, hget_c, hset_c, hdel_c, neN, neA_cons, neA_nil, ]); (repeat (simp only [brGen]; try simp (maxSteps := 4000000) +contextual only [↓ S2, S2, vIte, ↓reduceIte, Int.reduceNe, Nat.reduceEqDiff, reduceCtorEq, Nat.reduceLeDiff, Nat.reduceAdd, Nat.reduceLT, hget_c, hset_c, hdel_c, neN, neA_cons, neA_nil, ])); (try simp +contextual (disch := omega) only [Z2, ]); (repeat' (first | (with_reducible intro h) | (with_reducible refine And.intro (by omega) ?_) | (with_reducible refine exP (by omega) ?_) | (with_reducible apply And.intro))))
    refine callS.eq hx ?_
    ((try simp (maxSteps := 4000000) +contextual only [↓ S2, S2, vIte, ↓reduceIte, Int.reduceNe, Nat.reduceEqDiff, reduceCtorEq, Nat.reduceLeDiff, Nat.reduceAdd, Nat.reduceLT, hget_c, hset_c, hdel_c, neN, neA_cons, neA_nil, ]); (repeat (simp only [brGen]; try simp (maxSteps := 4000000) +contextual only [↓ S2, S2, vIte, ↓reduceIte, Int.reduceNe, Nat.reduceEqDiff, reduceCtorEq, Nat.reduceLeDiff, Nat.reduceAdd, Nat.reduceLT, hget_c, hset_c, hdel_c, neN, neA_cons, neA_nil, ])); (try simp +contextual (disch := omega) only [Z2, ]); (repeat' (first | (with_reducible intro h) | (with_reducible refine And.intro (by omega) ?_) | (with_reducible refine exP (by omega) ?_) | (with_reducible apply And.intro))))
theorem p9 (g : Gram) (t : List Nod) (hg : smGr g) (hl : t.length ≤ 1048576) (hkk : ∀ x ∈ t, x.kids.length ≤ 1048576) (hr : ∀ x ∈ t, (chars x.rule).length ≤ 1048576) : PureT Tryz.prog (tab10 0) 9 [Gr g, Tr t] (· = .val (mkS (fmtT g t))) := by
  unfold fmtT
  have hst := w21 g t hg hl hkk
  have htx : treeOf g t (symN g t 0) = true → PureT Tryz.prog (tab10 0) 22 [Gr g, Tr t, I 0] (· = .val (mkS (txtN g t t.length 0))) := fun h => by
    obtain ⟨_, _, h1⟩ := treeOf_parts h
    exact p22 g t hg hl hkk (D := 1048600) (fun x hx => by have := hr x hx; omega) (by omega) t.length 0 (-1) 0 (symN g t 0) (by omega)
  generalize treeOf g t (symN g t 0) = b at *
  refine gstart mxd i9 rfl (by simp) ?_; simp (maxSteps := 2000000) only [↓ S2, S2, vIte, ↓reduceIte, Int.reduceNe, Nat.reduceEqDiff, reduceCtorEq, Nat.reduceLeDiff, Nat.reduceAdd, Nat.reduceLT]
  ((try simp (maxSteps := 4000000) +contextual only [↓ S2, S2, vIte, ↓reduceIte, Int.reduceNe, Nat.reduceEqDiff, reduceCtorEq, Nat.reduceLeDiff, Nat.reduceAdd, Nat.reduceLT, hget_c, hset_c, hdel_c, neN, neA_cons, neA_nil, ]); (repeat (simp only [brGen]; try simp (maxSteps := 4000000) +contextual only [↓ S2, S2, vIte, ↓reduceIte, Int.reduceNe, Nat.reduceEqDiff, reduceCtorEq, Nat.reduceLeDiff, Nat.reduceAdd, Nat.reduceLT, hget_c, hset_c, hdel_c, neN, neA_cons, neA_nil, ])); (try simp +contextual (disch := omega) only [Z2, ]); (repeat' (first | (with_reducible intro h) | (with_reducible refine And.intro (by omega) ?_) | (with_reducible refine exP (by omega) ?_) | (with_reducible apply And.intro))))
  refine callS.eq hst ?_
  rcases (Bool.eq_false_or_eq_true b).symm with hb | hb
  · simp only [hb, Bool.false_eq_true, if_false]
    ((try simp (maxSteps := 4000000) +contextual only [↓ S2, S2, vIte, ↓reduceIte, Int.reduceNe, Nat.reduceEqDiff, reduceCtorEq, Nat.reduceLeDiff, Nat.reduceAdd, Nat.reduceLT, hget_c, hset_c, hdel_c, neN, neA_cons, neA_nil, ]); (repeat (simp only [brGen]; try simp (maxSteps := 4000000) +contextual only [↓ S2, S2, vIte, ↓reduceIte, Int.reduceNe, Nat.reduceEqDiff, reduceCtorEq, Nat.reduceLeDiff, Nat.reduceAdd, Nat.reduceLT, hget_c, hset_c, hdel_c, neN, neA_cons, neA_nil, ])); (try simp +contextual (disch := omega) only [Z2, ]); (repeat' (first | (with_reducible intro h) | (with_reducible refine And.intro (by omega) ?_) | (with_reducible refine exP (by omega) ?_) | (with_reducible apply And.intro))))
  · have hx := htx hb
    simp only [hb, if_true]
    ((try simp (maxSteps := 4000000) +contextual only [↓ S2, S2, vIte, ↓reduceIte, Int.reduceNe, Nat.reduceEqDiff, reduceCtorEq, Nat.reduceLeDiff, Nat.reduceAdd, Nat.reduceLT, hget_c, hset_c, hdel_c, neN, neA_cons, neA_nil, ]); (repeat (simp only [brGen]; try simp (maxSteps := 4000000) +contextual only [↓ S2, S2, vIte, ↓reduceIte, Int.reduceNe, Nat.reduceEqDiff, reduceCtorEq, Nat.reduceLeDiff, Nat.reduceAdd, Nat.reduceLT, hget_c, hset_c, hdel_c, neN, neA_cons, neA_nil, ])); (try simp +contextual (disch := omega) only [Z2, ]); (repeat' (first | (with_reducible intro h) | (with_reducible refine And.intro (by omega) ?_) | (with_reducible refine exP (by omega) ?_) | (with_reducible apply And.intro))))
    refine callS.eqT hx (tabH_10 0) (fun _ h => h) ?_
    ((try simp (maxSteps := 4000000) +contextual only [↓ S2, S2, vIte, ↓reduceIte, Int.reduceNe, Nat.reduceEqDiff, reduceCtorEq, Nat.reduceLeDiff, Nat.reduceAdd, Nat.reduceLT, hget_c, hset_c, hdel_c, neN, neA_cons, neA_nil, ]); (repeat (simp only [brGen]; try simp (maxSteps := 4000000) +contextual only [↓ S2, S2, vIte, ↓reduceIte, Int.reduceNe, Nat.reduceEqDiff, reduceCtorEq, Nat.reduceLeDiff, Nat.reduceAdd, Nat.reduceLT, hget_c, hset_c, hdel_c, neN, neA_cons, neA_nil, ])); (try simp +contextual (disch := omega) only [Z2, ]); (repeat' (first | (with_reducible intro h) | (with_reducible refine And.intro (by omega) ?_) | (with_reducible refine exP (by omega) ?_) | (with_reducible apply And.intro))))
theorem p3 (g : Gram) (t : List Nod) (hg : okGr g) (ht : ∀ x ∈ t, x.rule.size ≤ maxLen) : PureT Tryz.prog (tab10 0) 3 [Gr g, Tr t] (· = B true) := by
  refine gstart mxd i3 rfl (by simp) ?_; simp (maxSteps := 2000000) only [↓ S2, S2, vIte, ↓reduceIte, Int.reduceNe, Nat.reduceEqDiff, reduceCtorEq, Nat.reduceLeDiff, Nat.reduceAdd, Nat.reduceLT]
  ((try simp (maxSteps := 4000000) +contextual only [↓ S2, S2, vIte, ↓reduceIte, Int.reduceNe, Nat.reduceEqDiff, reduceCtorEq, Nat.reduceLeDiff, Nat.reduceAdd, Nat.reduceLT, hget_c, hset_c, hdel_c, neN, neA_cons, neA_nil, ]); (repeat (simp only [brGen]; try simp (maxSteps := 4000000) +contextual only [↓ S2, S2, vIte, ↓reduceIte, Int.reduceNe, Nat.reduceEqDiff, reduceCtorEq, Nat.reduceLeDiff, Nat.reduceAdd, Nat.reduceLT, hget_c, hset_c, hdel_c, neN, neA_cons, neA_nil, ])); (try simp +contextual (disch := omega) only [Z2, ]); (repeat' (first | (with_reducible intro h) | (with_reducible refine And.intro (by omega) ?_) | (with_reducible refine exP (by omega) ?_) | (with_reducible apply And.intro))))
  refine callS.eq (w4 g _ (by omega) (by omega) hg) ?_
  ((try simp (maxSteps := 2000000) only [↓ S2, S2, vIte, ↓reduceIte, Int.reduceNe, Nat.reduceEqDiff, reduceCtorEq, Nat.reduceLeDiff, Nat.reduceAdd, Nat.reduceLT]); (repeat (simp only [brGen]; try simp (maxSteps := 2000000) only [↓ S2, S2, vIte, ↓reduceIte, Int.reduceNe, Nat.reduceEqDiff, reduceCtorEq, Nat.reduceLeDiff, Nat.reduceAdd, Nat.reduceLT])); (try simp +contextual (disch := omega) only [Z2]); (repeat' (first | (with_reducible intro h) | (with_reducible refine And.intro (by omega) ?_) | (with_reducible refine exP (by omega) ?_) | (with_reducible apply And.intro))))
  have h1 := szv_nn h
  have hs := smGr_of (g := g) (by omega)
  rw [szv_pos h1]
  refine callS.eq (w5 t _ (by omega) (by omega) ht) ?_
  ((try simp (maxSteps := 2000000) only [↓ S2, S2, vIte, ↓reduceIte, Int.reduceNe, Nat.reduceEqDiff, reduceCtorEq, Nat.reduceLeDiff, Nat.reduceAdd, Nat.reduceLT]); (repeat (simp only [brGen]; try simp (maxSteps := 2000000) only [↓ S2, S2, vIte, ↓reduceIte, Int.reduceNe, Nat.reduceEqDiff, reduceCtorEq, Nat.reduceLeDiff, Nat.reduceAdd, Nat.reduceLT])); (try simp +contextual (disch := omega) only [Z2]); (repeat' (first | (with_reducible intro h) | (with_reducible refine And.intro (by omega) ?_) | (with_reducible refine exP (by omega) ?_) | (with_reducible apply And.intro))))
  have hb := szTr h (by omega)
  have hr : ∀ x ∈ t, (chars x.rule).length ≤ 1048576 := fun x hx => by
    have h2 := szv_nn h
    have h3 := sum_mem wNd t x hx
    simp only [wtS, wNd] at h2 h3
    omega
  have hq := w6 g t hs hb.1 hb.2 hr
  have hp := p9 g t hs hb.1 hb.2 hr
  generalize fmtT g t = l at *
  refine callS.eq (w7 g hs) ?_
  ((try simp (maxSteps := 4000000) +contextual only [↓ S2, S2, vIte, ↓reduceIte, Int.reduceNe, Nat.reduceEqDiff, reduceCtorEq, Nat.reduceLeDiff, Nat.reduceAdd, Nat.reduceLT, hget_c, hset_c, hdel_c, neN, neA_cons, neA_nil, ]); (repeat (simp only [brGen]; try simp (maxSteps := 4000000) +contextual only [↓ S2, S2, vIte, ↓reduceIte, Int.reduceNe, Nat.reduceEqDiff, reduceCtorEq, Nat.reduceLeDiff, Nat.reduceAdd, Nat.reduceLT, hget_c, hset_c, hdel_c, neN, neA_cons, neA_nil, ])); (try simp +contextual (disch := omega) only [Z2, ]); (repeat' (first | (with_reducible intro h) | (with_reducible refine And.intro (by omega) ?_) | (with_reducible refine exP (by omega) ?_) | (with_reducible apply And.intro))))
  refine callS.eq (w8 t hb.1 hb.2) ?_
  ((try simp (maxSteps := 4000000) +contextual only [↓ S2, S2, vIte, ↓reduceIte, Int.reduceNe, Nat.reduceEqDiff, reduceCtorEq, Nat.reduceLeDiff, Nat.reduceAdd, Nat.reduceLT, hget_c, hset_c, hdel_c, neN, neA_cons, neA_nil, ]); (repeat (simp only [brGen]; try simp (maxSteps := 4000000) +contextual only [↓ S2, S2, vIte, ↓reduceIte, Int.reduceNe, Nat.reduceEqDiff, reduceCtorEq, Nat.reduceLeDiff, Nat.reduceAdd, Nat.reduceLT, hget_c, hset_c, hdel_c, neN, neA_cons, neA_nil, ])); (try simp +contextual (disch := omega) only [Z2, ]); (repeat' (first | (with_reducible intro h) | (with_reducible refine And.intro (by omega) ?_) | (with_reducible refine exP (by omega) ?_) | (with_reducible apply And.intro))))
  refine callS.eq hq ?_
  ((try simp (maxSteps := 4000000) +contextual only [↓ S2, S2, vIte, ↓reduceIte, Int.reduceNe, Nat.reduceEqDiff, reduceCtorEq, Nat.reduceLeDiff, Nat.reduceAdd, Nat.reduceLT, hget_c, hset_c, hdel_c, neN, neA_cons, neA_nil, ]); (repeat (simp only [brGen]; try simp (maxSteps := 4000000) +contextual only [↓ S2, S2, vIte, ↓reduceIte, Int.reduceNe, Nat.reduceEqDiff, reduceCtorEq, Nat.reduceLeDiff, Nat.reduceAdd, Nat.reduceLT, hget_c, hset_c, hdel_c, neN, neA_cons, neA_nil, ])); (try simp +contextual (disch := omega) only [Z2, ]); (repeat' (first | (with_reducible intro h) | (with_reducible refine And.intro (by omega) ?_) | (with_reducible refine exP (by omega) ?_) | (with_reducible apply And.intro))))
  refine callS.eq (w7 g hs) ?_
  ((try simp (maxSteps := 4000000) +contextual only [↓ S2, S2, vIte, ↓reduceIte, Int.reduceNe, Nat.reduceEqDiff, reduceCtorEq, Nat.reduceLeDiff, Nat.reduceAdd, Nat.reduceLT, hget_c, hset_c, hdel_c, neN, neA_cons, neA_nil, ]); (repeat (simp only [brGen]; try simp (maxSteps := 4000000) +contextual only [↓ S2, S2, vIte, ↓reduceIte, Int.reduceNe, Nat.reduceEqDiff, reduceCtorEq, Nat.reduceLeDiff, Nat.reduceAdd, Nat.reduceLT, hget_c, hset_c, hdel_c, neN, neA_cons, neA_nil, ])); (try simp +contextual (disch := omega) only [Z2, ]); (repeat' (first | (with_reducible intro h) | (with_reducible refine And.intro (by omega) ?_) | (with_reducible refine exP (by omega) ?_) | (with_reducible apply And.intro))))
  refine callS.eq (w8 t hb.1 hb.2) ?_
  ((try simp (maxSteps := 4000000) +contextual only [↓ S2, S2, vIte, ↓reduceIte, Int.reduceNe, Nat.reduceEqDiff, reduceCtorEq, Nat.reduceLeDiff, Nat.reduceAdd, Nat.reduceLT, hget_c, hset_c, hdel_c, neN, neA_cons, neA_nil, ]); (repeat (simp only [brGen]; try simp (maxSteps := 4000000) +contextual only [↓ S2, S2, vIte, ↓reduceIte, Int.reduceNe, Nat.reduceEqDiff, reduceCtorEq, Nat.reduceLeDiff, Nat.reduceAdd, Nat.reduceLT, hget_c, hset_c, hdel_c, neN, neA_cons, neA_nil, ])); (try simp +contextual (disch := omega) only [Z2, ]); (repeat' (first | (with_reducible intro h) | (with_reducible refine And.intro (by omega) ?_) | (with_reducible refine exP (by omega) ?_) | (with_reducible apply And.intro))))
  refine callS.eqT hp (tabH_10 0) (fun _ h => h) ?_
  ((try simp (maxSteps := 4000000) +contextual only [↓ S2, S2, vIte, ↓reduceIte, Int.reduceNe, Nat.reduceEqDiff, reduceCtorEq, Nat.reduceLeDiff, Nat.reduceAdd, Nat.reduceLT, hget_c, hset_c, hdel_c, neN, neA_cons, neA_nil, ]); (repeat (simp only [brGen]; try simp (maxSteps := 4000000) +contextual only [↓ S2, S2, vIte, ↓reduceIte, Int.reduceNe, Nat.reduceEqDiff, reduceCtorEq, Nat.reduceLeDiff, Nat.reduceAdd, Nat.reduceLT, hget_c, hset_c, hdel_c, neN, neA_cons, neA_nil, ])); (try simp +contextual (disch := omega) only [Z2, ]); (repeat' (first | (with_reducible intro h) | (with_reducible refine And.intro (by omega) ?_) | (with_reducible refine exP (by omega) ?_) | (with_reducible apply And.intro))))
  refine callS.eq (w7 g hs) ?_
  ((try simp (maxSteps := 4000000) +contextual only [↓ S2, S2, vIte, ↓reduceIte, Int.reduceNe, Nat.reduceEqDiff, reduceCtorEq, Nat.reduceLeDiff, Nat.reduceAdd, Nat.reduceLT, hget_c, hset_c, hdel_c, neN, neA_cons, neA_nil, ]); (repeat (simp only [brGen]; try simp (maxSteps := 4000000) +contextual only [↓ S2, S2, vIte, ↓reduceIte, Int.reduceNe, Nat.reduceEqDiff, reduceCtorEq, Nat.reduceLeDiff, Nat.reduceAdd, Nat.reduceLT, hget_c, hset_c, hdel_c, neN, neA_cons, neA_nil, ])); (try simp +contextual (disch := omega) only [Z2, ]); (repeat' (first | (with_reducible intro h) | (with_reducible refine And.intro (by omega) ?_) | (with_reducible refine exP (by omega) ?_) | (with_reducible apply And.intro))))
  refine callS.eq (w10 g g) ?_
  ((try simp (maxSteps := 4000000) +contextual only [↓ S2, S2, vIte, ↓reduceIte, Int.reduceNe, Nat.reduceEqDiff, reduceCtorEq, Nat.reduceLeDiff, Nat.reduceAdd, Nat.reduceLT, hget_c, hset_c, hdel_c, neN, neA_cons, neA_nil, ]); (repeat (simp only [brGen]; try simp (maxSteps := 4000000) +contextual only [↓ S2, S2, vIte, ↓reduceIte, Int.reduceNe, Nat.reduceEqDiff, reduceCtorEq, Nat.reduceLeDiff, Nat.reduceAdd, Nat.reduceLT, hget_c, hset_c, hdel_c, neN, neA_cons, neA_nil, ])); (try simp +contextual (disch := omega) only [Z2, ]); (repeat' (first | (with_reducible intro h) | (with_reducible refine And.intro (by omega) ?_) | (with_reducible refine exP (by omega) ?_) | (with_reducible apply And.intro))))
  refine callS.eq (w8 t hb.1 hb.2) ?_
  ((try simp (maxSteps := 4000000) +contextual only [↓ S2, S2, vIte, ↓reduceIte, Int.reduceNe, Nat.reduceEqDiff, reduceCtorEq, Nat.reduceLeDiff, Nat.reduceAdd, Nat.reduceLT, hget_c, hset_c, hdel_c, neN, neA_cons, neA_nil, ]); (repeat (simp only [brGen]; try simp (maxSteps := 4000000) +contextual only [↓ S2, S2, vIte, ↓reduceIte, Int.reduceNe, Nat.reduceEqDiff, reduceCtorEq, Nat.reduceLeDiff, Nat.reduceAdd, Nat.reduceLT, hget_c, hset_c, hdel_c, neN, neA_cons, neA_nil, ])); (try simp +contextual (disch := omega) only [Z2, ]); (repeat' (first | (with_reducible intro h) | (with_reducible refine And.intro (by omega) ?_) | (with_reducible refine exP (by omega) ?_) | (with_reducible apply And.intro))))
  refine callS.eq (w11 t t) ?_
  ((try simp (maxSteps := 4000000) +contextual only [↓ S2, S2, vIte, ↓reduceIte, Int.reduceNe, Nat.reduceEqDiff, reduceCtorEq, Nat.reduceLeDiff, Nat.reduceAdd, Nat.reduceLT, hget_c, hset_c, hdel_c, neN, neA_cons, neA_nil, ]); (repeat (simp only [brGen]; try simp (maxSteps := 4000000) +contextual only [↓ S2, S2, vIte, ↓reduceIte, Int.reduceNe, Nat.reduceEqDiff, reduceCtorEq, Nat.reduceLeDiff, Nat.reduceAdd, Nat.reduceLT, hget_c, hset_c, hdel_c, neN, neA_cons, neA_nil, ])); (try simp +contextual (disch := omega) only [Z2, ]); (repeat' (first | (with_reducible intro h) | (with_reducible refine And.intro (by omega) ?_) | (with_reducible refine exP (by omega) ?_) | (with_reducible apply And.intro))))
end Go.Proofs.YtbdmpkidcpblaaaGreatDoor

