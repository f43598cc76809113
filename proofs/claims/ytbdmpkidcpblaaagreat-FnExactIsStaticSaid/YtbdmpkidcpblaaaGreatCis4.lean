/- The laws FnExactIsSolution and FnExactIsStatic return true whatever the input, and the input reads behind the call as before. No condition. -/
import Derived.Test.YtbdmpkidcpblaaaGreatCis3
namespace Go.Proofs.YtbdmpkidcpblaaaGreat
open Go.Gh
open Nat (reduceEqDiff reduceLeDiff reduceAdd reduceLT)
open Int (reduceNe)
set_option maxRecDepth 20000
set_option linter.unusedSimpArgs false
set_option linter.unusedVariables false
set_option maxHeartbeats 4000000 in
theorem o138 (g : Gram) (t : List Nod) (x : Int × ByteArray) (hg : smGr g) (hl : t.length ≤ 1048576) (H : GH) : GCalls Tryz.prog 138 [Gr g, Tr t, Ins x] H (fun v H' => ∃ H1, (∃ q, v = .tup [.agg [I (defO g t x), I (defE g t x).kind, I (defE g t x).n, I (defE g t x).pos, I (defE g t x).type, T (defE g t x).sym, T (defE g t x).name, .own q 7 0 (defE g t x).args.length], B (defB g t x)] ∧ H1 = [(q, 7, (defE g t x).args.map ExO)]) ∧ H' = H1 ++ H) := by
  have h0 : GCalls Tryz.prog 138 [Gr g, Tr t, Ins x] H (fun v H' => (defB g t x = true ∧ ∃ q H2, v = .tup [.agg [I (defO g t x), I (defE g t x).kind, I (defE g t x).n, I (defE g t x).pos, I (defE g t x).type, T (defE g t x).sym, T (defE g t x).name, .own q 7 0 (defE g t x).args.length], B true] ∧ H' = ((q, 7, (defE g t x).args.map ExO) :: H2) ++ H) ∨ (defB g t x = false ∧ v = .tup [.agg [I 0, I 0, I 0, I 0, I 0, T noS, T noS, .val (.slice none 0 0)], B false] ∧ ∃ H2, H' = H2 ++ H)) := by
    refine gstart mxd i138 rfl (by simp) ?_; refine X0 ?_
    refine callS.eq (w203 g t x hg) ?_
    by_cases h1 : hasN g t x.1 x.2 = true
    · obtain ⟨hi1, hi2⟩ := hasN_ix h1
      obtain ⟨n, hin⟩ : ∃ n : Nat, ixOf (fun y : Nod => decide (y.id = x.1)) t = n := ⟨(ixOf (fun y : Nod => decide (y.id = x.1)) t).toNat, by omega⟩
      have hn : n < t.length := by omega
      by_cases h2 : (attN g t x.1 x.2).mode = 3
      · have hB : defB g t x = false := by simp [defB, h2]
        (refine V1 (jO h1 h2) ?_; with_reducible repeat' first | exact trivial | intro h | refine aO ?_ | refine eO ?_ | apply And.intro)
        all_goals first | exact .inr ⟨hB, rfl, [], rfl⟩ | (exfalso; omega)
      (refine V1 (jO h1 h2) ?_; with_reducible repeat' first | exact trivial | intro h | refine aO ?_ | refine eO ?_ | apply And.intro)
      all_goals try (exfalso; omega)
      refine callS.eq (w204 t x.1) ?_
      by_cases h3 : (attN g t x.1 x.2).mode = 1
      · have ho : ownN g t x = (t[n].parent, t[n].place) := by simp only [ownN, if_pos h3, hin, Int.toNat_natCast]; rw [getD_lt hn]
        by_cases hr : 0 ≤ t[n].parent ∧ t[n].parent < t.length
        · obtain ⟨m, hm⟩ : ∃ m : Nat, t[n].parent = m := ⟨(t[n].parent).toNat, by omega⟩
          have hmt : m < t.length := by omega
          have hrr : 0 ≤ (m : Int) ∧ (m : Int) < t.length := by omega
          have hgt : t.getD m nodZ = t[m] := getD_lt hmt
          (refine V1 (jO h1 (jO h2 (jO h3 hin))) ?_; with_reducible repeat' first | exact trivial | intro h | refine aO ?_ | refine eO ?_ | apply And.intro)
          all_goals try (exfalso; omega)
          refine callS.eq (w201 t _) ?_
          (refine V1 (jO hm hrr) ?_; with_reducible repeat' first | exact trivial | intro h | refine aO ?_ | refine eO ?_ | apply And.intro)
          all_goals try (exfalso; omega)
          refine callS.eq (w202 g _ hg) ?_
          (refine V1 hm ?_; with_reducible repeat' first | exact trivial | intro h | refine aO ?_ | refine eO ?_ | apply And.intro)
          all_goals try (exfalso; omega)
          refine callS.of (o205 (fRul g.rules t[m].rule) (t[n].place, x.2) (smRu_f hg _) _) ?_
          rintro v H' ⟨q, rfl, rfl⟩ hq
          by_cases h5 : (eqnF (fRul g.rules t[m].rule) (t[n].place, x.2)).isSome = true
          · have hB : defB g t x = true := by simp [defB, h1, h2, ho, hm, h5, hmt, hgt]
            have hE : defE g t x = eqnE (fRul g.rules t[m].rule) (t[n].place, x.2) := by simp only [defE, hB, if_true, ho, hm, Int.toNat_natCast, hgt]
            have hO : defO g t x = m := by simp only [defO, hB, if_true, ho, hm]
            rw [hE, hO]
            (refine V1 (jO h5 hm) ?_; with_reducible repeat' first | exact trivial | intro h | refine aO ?_ | refine eO ?_ | apply And.intro)
            exact .inl ⟨hB, q, [_], rfl, rfl⟩
          · have h5' : (eqnF (fRul g.rules t[m].rule) (t[n].place, x.2)).isSome = false := by simpa using h5
            have hB : defB g t x = false := by simp only [defB, ho, hm, Int.toNat_natCast, hgt, h5', Bool.and_false]
            (refine V1 h5' ?_; with_reducible repeat' first | exact trivial | intro h | refine aO ?_ | refine eO ?_ | apply And.intro)
            exact .inr ⟨hB, rfl, [_, _], rfl⟩
        · have hB : defB g t x = false := by simp only [defB, ho, decide_eq_false hr, Bool.and_false, Bool.false_and]
          (refine V1 (jO h1 (jO h2 (jO h3 hin))) ?_; with_reducible repeat' first | exact trivial | intro h | refine aO ?_ | refine eO ?_ | apply And.intro)
          all_goals try (exfalso; omega)
          refine callS.eq (w201 t _) ?_
          (refine V1 hr ?_; with_reducible repeat' first | exact trivial | intro h | refine aO ?_ | refine eO ?_ | apply And.intro)
          exact .inr ⟨hB, rfl, [_], rfl⟩
      · have ho : ownN g t x = ((n : Int), 0) := by simp only [ownN, if_neg h3, hin]
        by_cases hr : 0 ≤ (n : Int) ∧ (n : Int) < t.length
        · obtain ⟨m, hm⟩ : ∃ m : Nat, (n : Int) = m := ⟨((n : Int)).toNat, by omega⟩
          have hmt : m < t.length := by omega
          have hrr : 0 ≤ (m : Int) ∧ (m : Int) < t.length := by omega
          have hgt : t.getD m nodZ = t[m] := getD_lt hmt
          (refine V1 (jO h1 (jO h2 (jO h3 hin))) ?_; with_reducible repeat' first | exact trivial | intro h | refine aO ?_ | refine eO ?_ | apply And.intro)
          all_goals try (exfalso; omega)
          refine callS.eq (w201 t _) ?_
          (refine V1 (jO hm hrr) ?_; with_reducible repeat' first | exact trivial | intro h | refine aO ?_ | refine eO ?_ | apply And.intro)
          all_goals try (exfalso; omega)
          refine callS.eq (w202 g _ hg) ?_
          (refine V1 hm ?_; with_reducible repeat' first | exact trivial | intro h | refine aO ?_ | refine eO ?_ | apply And.intro)
          all_goals try (exfalso; omega)
          refine callS.of (o205 (fRul g.rules t[m].rule) ((0 : Int), x.2) (smRu_f hg _) _) ?_
          rintro v H' ⟨q, rfl, rfl⟩ hq
          by_cases h5 : (eqnF (fRul g.rules t[m].rule) ((0 : Int), x.2)).isSome = true
          · have hB : defB g t x = true := by simp [defB, h1, h2, ho, hm, h5, hmt, hgt]
            have hE : defE g t x = eqnE (fRul g.rules t[m].rule) ((0 : Int), x.2) := by simp only [defE, hB, if_true, ho, hm, Int.toNat_natCast, hgt]
            have hO : defO g t x = m := by simp only [defO, hB, if_true, ho, hm]
            rw [hE, hO]
            (refine V1 (jO h5 hm) ?_; with_reducible repeat' first | exact trivial | intro h | refine aO ?_ | refine eO ?_ | apply And.intro)
            exact .inl ⟨hB, q, [_], rfl, rfl⟩
          · have h5' : (eqnF (fRul g.rules t[m].rule) ((0 : Int), x.2)).isSome = false := by simpa using h5
            have hB : defB g t x = false := by simp only [defB, ho, hm, Int.toNat_natCast, hgt, h5', Bool.and_false]
            (refine V1 h5' ?_; with_reducible repeat' first | exact trivial | intro h | refine aO ?_ | refine eO ?_ | apply And.intro)
            exact .inr ⟨hB, rfl, [_, _], rfl⟩
        · exfalso; omega
    · have h1' : hasN g t x.1 x.2 = false := by simpa using h1
      have hB : defB g t x = false := by simp [defB, h1']
      (refine V1 h1' ?_; with_reducible repeat' first | exact trivial | intro h | refine aO ?_ | refine eO ?_ | apply And.intro)
      all_goals first | exact .inr ⟨hB, rfl, [], rfl⟩ | (exfalso; omega)
  refine h0.fr ?_
  rintro v H' (⟨hB, q, H2, rfl, rfl⟩ | ⟨hB, rfl, H2, rfl⟩)
  · rw [hB]
    exact ⟨_, _, FR.perm (H := (q, 7, (defE g t x).args.map ExO) :: H2) (L := [(q, 7, (defE g t x).args.map ExO)]) (by simp [subH, hget, names]), _, ⟨q, rfl, rfl⟩, rfl⟩
  · have hE : defE g t x = expZ := by simp [defE, hB]
    have hO : defO g t x = 0 := by simp [defO, hB]
    rw [hB, hE, hO]
    refine ⟨_, _, FR.trans (FR.perm (H := H2) (L := []) trivial) (FR.trans (FR.addv (r := vname ([] ++ H)) (sz := 7) (vname_odd _) (vname_new _)) (FR.sub (.tup (.cons (.agg (nilL_bor (l := [_, _, _, _, _, _, _]) (r := vname ([] ++ H)) (sz := 7))) (.cons .refl .nil))))), _, ⟨vname ([] ++ H), rfl, rfl⟩, rfl⟩
set_option maxHeartbeats 2000000 in
theorem w182 (g : Gram) (t : List Nod) (hg : smGr g) (hl : t.length ≤ 1048576) (hk : ∀ x ∈ t, x.kids.length ≤ 1048576) : ∀ (f i : Nat) (p q : Int) (s : ByteArray), t.length ≤ i + f → Pure Tryz.prog 182 [Gr g, Tr t, I i, I p, I q, T s] (· = I (walkE g t f i p q s)) := by
  intro f
  induction f with
  | zero =>
    intro i p q s hf
    refine gstart mxd i182 rfl (by simp) ?_; refine X0 ?_
    (refine R0 ?_; with_reducible repeat' first | exact trivial | intro h | refine aO ?_ | refine eO ?_ | apply And.intro)
    all_goals first | rfl | (exfalso; omega)
  | succ f ih =>
    intro i p q s hf
    refine gstart mxd i182 rfl (by simp) ?_; refine X0 ?_
    by_cases hi : i < t.length
    rotate_left
    · rw [walkE_out (by omega)]
      (refine R0 ?_; with_reducible repeat' first | exact trivial | intro h | refine aO ?_ | refine eO ?_ | apply And.intro)
      all_goals first | rfl | (exfalso; omega)
    have hw : walkE g t (f + 1) i p q s = if fitV g t[i] p q s then kidsW (walkE g t f) i t[i].kids (fRul g.rules t[i].rule).right 0 (i + 1) else -1 := by simp only [walkE, if_pos hi, getD_lt hi]
    have hkk := hk _ (List.getElem_mem hi)
    have hr := smRu_f hg t[i].rule
    have hrr := hr.1
    rw [hw]
    by_cases hv : fitV g t[i] p q s = true
    · rw [if_pos hv]
      obtain ⟨h1, h2, h3, h4, h5, h6, h7⟩ := fitV_iff.1 hv
      subst h2 h3 h4
      clear hw hv
      have hR : ∃ R, fRul g.rules t[i].rule = R := ⟨_, rfl⟩
      obtain ⟨R, hR⟩ := hR
      rw [hR] at hr hrr h5 h7 ⊢
      have main : ∀ (Q : Exit → Env → GH → Prop), True := fun _ => trivial
      rcases h7 with h7 | h7
      · (repeat' (first | (with_reducible refine callS.eq (w183 _ _ hg) ?_) | (with_reducible refine callS.eq (w230 _ _) ?_) | simp (maxSteps := 9^7) only [↓ S2, S2, vIte, ↓reduceIte, reduceNe, reduceEqDiff, reduceCtorEq, reduceLeDiff, reduceAdd, reduceLT, h1, h5, okV1, eq_true h6, h7, hR] | simp only [brGen] | simp +contextual (disch := omega) only [Z2] | with_reducible first | intro h | refine And.intro (by omega) ?_ | refine exP (by omega) ?_ | apply And.intro))
        all_goals try (exfalso; omega)
        have hVV : ∃ V, kidsW (walkE g t f) i t[i].kids R.right 0 (i + 1) = V := ⟨_, rfl⟩
        obtain ⟨V, hVV⟩ := hVV
        rw [hVV]
        refine wloop mxd (ι := { x : Nat × Int // x.1 ≤ R.right.length ∧ (i : Int) < x.2 ∧ x.2 ≤ t.length ∧ kidsW (walkE g t f) i (t[i].kids.drop x.1) (R.right.drop x.1) x.1 x.2 = V }) (fun x => [(2, I i), (6, .rop 2 (Gr g)), (7, .rop 1 (Tr t)), (13, .rop 6 (Nd t[i])), (14, .rop 6 (Ru R)), (16, I x.1.2), (17, I x.1.1)]) (fun _ => []) (fun x => R.right.length - x.1.1) ⟨(0, i + 1), by simp, by simp; omega, by simp; omega, by simpa using hVV⟩ (by simp [E2, h7]) rfl ?_
        rintro ⟨⟨k, a⟩, hk1, ha1, ha2, hV⟩
        dsimp only at hk1 ha1 ha2 hV ⊢
        rcases Nat.lt_or_ge k R.right.length with hlt | hge
        · rw [kidsW_step (by omega) hlt] at hV
          by_cases hc : t[i].kids[k] = a
          · rw [if_neg (by simpa using hc)] at hV
            obtain ⟨m, rfl⟩ : ∃ m : Nat, a = m := ⟨a.toNat, by omega⟩
            have hm := walkE_ge (g := g) (t := t) f m i ((k : Int) + 1) R.right[k]
            simp only [Int.toNat_natCast] at hV
            (repeat' (first | (with_reducible refine callS.eq (ih m _ _ _ (by omega)) ?_) | simp (maxSteps := 9^7) only [↓ S2, S2, vIte, ↓reduceIte, reduceNe, reduceEqDiff, reduceCtorEq, reduceLeDiff, reduceAdd, reduceLT, h5, hc] | simp only [brGen] | simp +contextual (disch := omega) only [Z2] | with_reducible first | intro h | refine And.intro (by omega) ?_ | refine exP (by omega) ?_ | apply And.intro))
            all_goals try (exfalso; omega)
            · rw [if_pos (by assumption)] at hV; rw [← hV]
            · rw [if_neg (by assumption)] at hV
              exact nx ⟨(k + 1, walkE g t f m i ((k : Int) + 1) R.right[k]), by omega, by dsimp only; omega, by dsimp only; omega, hV⟩ (by simp; omega) (by simp [E2]) rfl
          · rw [if_pos (by simpa using hc)] at hV
            (repeat' (first | (with_reducible refine callS.eq (ih _ _ _ _ (by omega)) ?_) | simp (maxSteps := 9^7) only [↓ S2, S2, vIte, ↓reduceIte, reduceNe, reduceEqDiff, reduceCtorEq, reduceLeDiff, reduceAdd, reduceLT, h5, hc] | simp only [brGen] | simp +contextual (disch := omega) only [Z2] | with_reducible first | intro h | refine And.intro (by omega) ?_ | refine exP (by omega) ?_ | apply And.intro))
            all_goals first | (rw [← hV]; done) | (exfalso; omega)
        · rw [kidsW_end (by omega)] at hV
          (refine R0 ?_; with_reducible repeat' first | exact trivial | intro h | refine aO ?_ | refine eO ?_ | apply And.intro)
          all_goals first | (rw [← hV]; done) | (exfalso; omega)
      · (repeat' (first | (with_reducible refine callS.eq (w183 _ _ hg) ?_) | (with_reducible refine callS.eq (w230 _ _) ?_) | simp (maxSteps := 9^7) only [↓ S2, S2, vIte, ↓reduceIte, reduceNe, reduceEqDiff, reduceCtorEq, reduceLeDiff, reduceAdd, reduceLT, h1, h5, okV1, eq_true h6, h7.1, eq_true h7.2, hR] | simp only [brGen] | simp +contextual (disch := omega) only [Z2] | with_reducible first | intro h | refine And.intro (by omega) ?_ | refine exP (by omega) ?_ | apply And.intro))
        all_goals try (exfalso; omega)
        have hVV : ∃ V, kidsW (walkE g t f) i t[i].kids R.right 0 (i + 1) = V := ⟨_, rfl⟩
        obtain ⟨V, hVV⟩ := hVV
        rw [hVV]
        refine wloop mxd (ι := { x : Nat × Int // x.1 ≤ R.right.length ∧ (i : Int) < x.2 ∧ x.2 ≤ t.length ∧ kidsW (walkE g t f) i (t[i].kids.drop x.1) (R.right.drop x.1) x.1 x.2 = V }) (fun x => [(2, I i), (6, .rop 2 (Gr g)), (7, .rop 1 (Tr t)), (13, .rop 6 (Nd t[i])), (14, .rop 6 (Ru R)), (16, I x.1.2), (17, I x.1.1)]) (fun _ => []) (fun x => R.right.length - x.1.1) ⟨(0, i + 1), by simp, by simp; omega, by simp; omega, by simpa using hVV⟩ (by simp [E2, h7]) rfl ?_
        rintro ⟨⟨k, a⟩, hk1, ha1, ha2, hV⟩
        dsimp only at hk1 ha1 ha2 hV ⊢
        rcases Nat.lt_or_ge k R.right.length with hlt | hge
        · rw [kidsW_step (by omega) hlt] at hV
          by_cases hc : t[i].kids[k] = a
          · rw [if_neg (by simpa using hc)] at hV
            obtain ⟨m, rfl⟩ : ∃ m : Nat, a = m := ⟨a.toNat, by omega⟩
            have hm := walkE_ge (g := g) (t := t) f m i ((k : Int) + 1) R.right[k]
            simp only [Int.toNat_natCast] at hV
            (repeat' (first | (with_reducible refine callS.eq (ih m _ _ _ (by omega)) ?_) | simp (maxSteps := 9^7) only [↓ S2, S2, vIte, ↓reduceIte, reduceNe, reduceEqDiff, reduceCtorEq, reduceLeDiff, reduceAdd, reduceLT, h5, hc] | simp only [brGen] | simp +contextual (disch := omega) only [Z2] | with_reducible first | intro h | refine And.intro (by omega) ?_ | refine exP (by omega) ?_ | apply And.intro))
            all_goals try (exfalso; omega)
            · rw [if_pos (by assumption)] at hV; rw [← hV]
            · rw [if_neg (by assumption)] at hV
              exact nx ⟨(k + 1, walkE g t f m i ((k : Int) + 1) R.right[k]), by omega, by dsimp only; omega, by dsimp only; omega, hV⟩ (by simp; omega) (by simp [E2]) rfl
          · rw [if_pos (by simpa using hc)] at hV
            (repeat' (first | (with_reducible refine callS.eq (ih _ _ _ _ (by omega)) ?_) | simp (maxSteps := 9^7) only [↓ S2, S2, vIte, ↓reduceIte, reduceNe, reduceEqDiff, reduceCtorEq, reduceLeDiff, reduceAdd, reduceLT, h5, hc] | simp only [brGen] | simp +contextual (disch := omega) only [Z2] | with_reducible first | intro h | refine And.intro (by omega) ?_ | refine exP (by omega) ?_ | apply And.intro))
            all_goals first | (rw [← hV]; done) | (exfalso; omega)
        · rw [kidsW_end (by omega)] at hV
          (refine R0 ?_; with_reducible repeat' first | exact trivial | intro h | refine aO ?_ | refine eO ?_ | apply And.intro)
          all_goals first | (rw [← hV]; done) | (exfalso; omega)
    · rw [if_neg hv]
      rw [fitV_iff] at hv
      (repeat' (first | (with_reducible refine callS.eq (w183 _ _ hg) ?_) | (with_reducible refine callS.eq (w230 _ _) ?_) | simp (maxSteps := 9^7) only [↓ S2, S2, vIte, ↓reduceIte, reduceNe, reduceEqDiff, reduceCtorEq, reduceLeDiff, reduceAdd, reduceLT] | simp only [brGen] | simp +contextual (disch := omega) only [Z2] | with_reducible first | intro h | refine And.intro (by omega) ?_ | refine exP (by omega) ?_ | apply And.intro))
      all_goals try rfl
      all_goals (exfalso; apply hv; simp_all only [okV1, decide_eq_true_eq, decide_eq_false_iff_not, true_and, and_true, or_true, true_or, not_true_eq_false, not_false_eq_true]; done)
set_option maxHeartbeats 2000000 in
theorem w250 (g : Gram) (t : List Nod) (hg : smGr g) (hl : t.length ≤ 1048576) (hk : ∀ x ∈ t, x.kids.length ≤ 1048576) : ∀ (f i : Nat) (p q : Int) (s : ByteArray), t.length ≤ i + f → Pure Tryz.prog 250 [Gr g, Tr t, I i, I p, I q, T s] (· = I (walkE g t f i p q s)) := by
  intro f
  induction f with
  | zero =>
    intro i p q s hf
    refine gstart mxd i250 rfl (by simp) ?_; refine X0 ?_
    (refine R0 ?_; with_reducible repeat' first | exact trivial | intro h | refine aO ?_ | refine eO ?_ | apply And.intro)
    all_goals first | rfl | (exfalso; omega)
  | succ f ih =>
    intro i p q s hf
    refine gstart mxd i250 rfl (by simp) ?_; refine X0 ?_
    by_cases hi : i < t.length
    rotate_left
    · rw [walkE_out (by omega)]
      (refine R0 ?_; with_reducible repeat' first | exact trivial | intro h | refine aO ?_ | refine eO ?_ | apply And.intro)
      all_goals first | rfl | (exfalso; omega)
    have hw : walkE g t (f + 1) i p q s = if fitV g t[i] p q s then kidsW (walkE g t f) i t[i].kids (fRul g.rules t[i].rule).right 0 (i + 1) else -1 := by simp only [walkE, if_pos hi, getD_lt hi]
    have hkk := hk _ (List.getElem_mem hi)
    have hr := smRu_f hg t[i].rule
    have hrr := hr.1
    rw [hw]
    by_cases hv : fitV g t[i] p q s = true
    · rw [if_pos hv]
      obtain ⟨h1, h2, h3, h4, h5, h6, h7⟩ := fitV_iff.1 hv
      subst h2 h3 h4
      clear hw hv
      have hR : ∃ R, fRul g.rules t[i].rule = R := ⟨_, rfl⟩
      obtain ⟨R, hR⟩ := hR
      rw [hR] at hr hrr h5 h7 ⊢
      have main : ∀ (Q : Exit → Env → GH → Prop), True := fun _ => trivial
      rcases h7 with h7 | h7
      · (repeat' (first | (with_reducible refine callS.eq (w202 _ _ hg) ?_) | (with_reducible refine callS.eq (w73 _ _ _) ?_) | simp (maxSteps := 9^7) only [↓ S2, S2, vIte, ↓reduceIte, reduceNe, reduceEqDiff, reduceCtorEq, reduceLeDiff, reduceAdd, reduceLT, h1, h5, eq_true h6, h7, hR] | simp only [brGen] | simp +contextual (disch := omega) only [Z2] | with_reducible first | intro h | refine And.intro (by omega) ?_ | refine exP (by omega) ?_ | apply And.intro))
        all_goals try (exfalso; omega)
        have hVV : ∃ V, kidsW (walkE g t f) i t[i].kids R.right 0 (i + 1) = V := ⟨_, rfl⟩
        obtain ⟨V, hVV⟩ := hVV
        rw [hVV]
        refine wloop mxd (ι := { x : Nat × Int // x.1 ≤ R.right.length ∧ (i : Int) < x.2 ∧ x.2 ≤ t.length ∧ kidsW (walkE g t f) i (t[i].kids.drop x.1) (R.right.drop x.1) x.1 x.2 = V }) (fun x => [(2, I i), (6, .rop 2 (Gr g)), (7, .rop 1 (Tr t)), (14, .rop 6 (Ru R)), (16, I x.1.2), (84, IS t[i].kids), (85, I R.right.length), (86, I x.1.1)]) (fun _ => []) (fun x => R.right.length - x.1.1) ⟨(0, i + 1), by simp, by simp; omega, by simp; omega, by simpa using hVV⟩ (by simp [E2, h7]) rfl ?_
        rintro ⟨⟨k, a⟩, hk1, ha1, ha2, hV⟩
        dsimp only at hk1 ha1 ha2 hV ⊢
        rcases Nat.lt_or_ge k R.right.length with hlt | hge
        · rw [kidsW_step (by omega) hlt] at hV
          by_cases hc : t[i].kids[k] = a
          · rw [if_neg (by simpa using hc)] at hV
            obtain ⟨m, rfl⟩ : ∃ m : Nat, a = m := ⟨a.toNat, by omega⟩
            have hm := walkE_ge (g := g) (t := t) f m i ((k : Int) + 1) R.right[k]
            simp only [Int.toNat_natCast] at hV
            (repeat' (first | (with_reducible refine callS.eq (ih m _ _ _ (by omega)) ?_) | simp (maxSteps := 9^7) only [↓ S2, S2, vIte, ↓reduceIte, reduceNe, reduceEqDiff, reduceCtorEq, reduceLeDiff, reduceAdd, reduceLT, h5, hc] | simp only [brGen] | simp +contextual (disch := omega) only [Z2] | with_reducible first | intro h | refine And.intro (by omega) ?_ | refine exP (by omega) ?_ | apply And.intro))
            all_goals try (exfalso; omega)
            · rw [if_pos (by assumption)] at hV; rw [← hV]
            · rw [if_neg (by assumption)] at hV
              exact nx ⟨(k + 1, walkE g t f m i ((k : Int) + 1) R.right[k]), by omega, by dsimp only; omega, by dsimp only; omega, hV⟩ (by simp; omega) (by simp [E2]) rfl
          · rw [if_pos (by simpa using hc)] at hV
            (repeat' (first | (with_reducible refine callS.eq (ih _ _ _ _ (by omega)) ?_) | simp (maxSteps := 9^7) only [↓ S2, S2, vIte, ↓reduceIte, reduceNe, reduceEqDiff, reduceCtorEq, reduceLeDiff, reduceAdd, reduceLT, h5, hc] | simp only [brGen] | simp +contextual (disch := omega) only [Z2] | with_reducible first | intro h | refine And.intro (by omega) ?_ | refine exP (by omega) ?_ | apply And.intro))
            all_goals first | (rw [← hV]; done) | (exfalso; omega)
        · rw [kidsW_end (by omega)] at hV
          (refine R0 ?_; with_reducible repeat' first | exact trivial | intro h | refine aO ?_ | refine eO ?_ | apply And.intro)
          all_goals first | (rw [← hV]; done) | (exfalso; omega)
      · (repeat' (first | (with_reducible refine callS.eq (w202 _ _ hg) ?_) | (with_reducible refine callS.eq (w73 _ _ _) ?_) | simp (maxSteps := 9^7) only [↓ S2, S2, vIte, ↓reduceIte, reduceNe, reduceEqDiff, reduceCtorEq, reduceLeDiff, reduceAdd, reduceLT, h1, h5, eq_true h6, h7.1, eq_true h7.2, hR] | simp only [brGen] | simp +contextual (disch := omega) only [Z2] | with_reducible first | intro h | refine And.intro (by omega) ?_ | refine exP (by omega) ?_ | apply And.intro))
        all_goals try (exfalso; omega)
        have hVV : ∃ V, kidsW (walkE g t f) i t[i].kids R.right 0 (i + 1) = V := ⟨_, rfl⟩
        obtain ⟨V, hVV⟩ := hVV
        rw [hVV]
        refine wloop mxd (ι := { x : Nat × Int // x.1 ≤ R.right.length ∧ (i : Int) < x.2 ∧ x.2 ≤ t.length ∧ kidsW (walkE g t f) i (t[i].kids.drop x.1) (R.right.drop x.1) x.1 x.2 = V }) (fun x => [(2, I i), (6, .rop 2 (Gr g)), (7, .rop 1 (Tr t)), (14, .rop 6 (Ru R)), (16, I x.1.2), (84, IS t[i].kids), (85, I R.right.length), (86, I x.1.1)]) (fun _ => []) (fun x => R.right.length - x.1.1) ⟨(0, i + 1), by simp, by simp; omega, by simp; omega, by simpa using hVV⟩ (by simp [E2, h7]) rfl ?_
        rintro ⟨⟨k, a⟩, hk1, ha1, ha2, hV⟩
        dsimp only at hk1 ha1 ha2 hV ⊢
        rcases Nat.lt_or_ge k R.right.length with hlt | hge
        · rw [kidsW_step (by omega) hlt] at hV
          by_cases hc : t[i].kids[k] = a
          · rw [if_neg (by simpa using hc)] at hV
            obtain ⟨m, rfl⟩ : ∃ m : Nat, a = m := ⟨a.toNat, by omega⟩
            have hm := walkE_ge (g := g) (t := t) f m i ((k : Int) + 1) R.right[k]
            simp only [Int.toNat_natCast] at hV
            (repeat' (first | (with_reducible refine callS.eq (ih m _ _ _ (by omega)) ?_) | simp (maxSteps := 9^7) only [↓ S2, S2, vIte, ↓reduceIte, reduceNe, reduceEqDiff, reduceCtorEq, reduceLeDiff, reduceAdd, reduceLT, h5, hc] | simp only [brGen] | simp +contextual (disch := omega) only [Z2] | with_reducible first | intro h | refine And.intro (by omega) ?_ | refine exP (by omega) ?_ | apply And.intro))
            all_goals try (exfalso; omega)
            · rw [if_pos (by assumption)] at hV; rw [← hV]
            · rw [if_neg (by assumption)] at hV
              exact nx ⟨(k + 1, walkE g t f m i ((k : Int) + 1) R.right[k]), by omega, by dsimp only; omega, by dsimp only; omega, hV⟩ (by simp; omega) (by simp [E2]) rfl
          · rw [if_pos (by simpa using hc)] at hV
            (repeat' (first | (with_reducible refine callS.eq (ih _ _ _ _ (by omega)) ?_) | simp (maxSteps := 9^7) only [↓ S2, S2, vIte, ↓reduceIte, reduceNe, reduceEqDiff, reduceCtorEq, reduceLeDiff, reduceAdd, reduceLT, h5, hc] | simp only [brGen] | simp +contextual (disch := omega) only [Z2] | with_reducible first | intro h | refine And.intro (by omega) ?_ | refine exP (by omega) ?_ | apply And.intro))
            all_goals first | (rw [← hV]; done) | (exfalso; omega)
        · rw [kidsW_end (by omega)] at hV
          (refine R0 ?_; with_reducible repeat' first | exact trivial | intro h | refine aO ?_ | refine eO ?_ | apply And.intro)
          all_goals first | (rw [← hV]; done) | (exfalso; omega)
    · rw [if_neg hv]
      rw [fitV_iff] at hv
      (repeat' (first | (with_reducible refine callS.eq (w202 _ _ hg) ?_) | (with_reducible refine callS.eq (w73 _ _ _) ?_) | simp (maxSteps := 9^7) only [↓ S2, S2, vIte, ↓reduceIte, reduceNe, reduceEqDiff, reduceCtorEq, reduceLeDiff, reduceAdd, reduceLT] | simp only [brGen] | simp +contextual (disch := omega) only [Z2] | with_reducible first | intro h | refine And.intro (by omega) ?_ | refine exP (by omega) ?_ | apply And.intro))
      all_goals try rfl
      all_goals (exfalso; apply hv; simp_all only [okV1, decide_eq_true_eq, decide_eq_false_iff_not, true_and, and_true, or_true, true_or, not_true_eq_false, not_false_eq_true]; done)
theorem w130 (l : List Int) (x : Int) : Pure Tryz.prog 130 [IS l, I x] (· = B (hasI l x)) := by
  refine GCalls.lenA fun hl => ?_
  have hlen := hl.1.1
  simp only [List.length_map, maxL] at hlen
  refine gstart mxd i130 rfl (by simp) ?_; refine X0 ?_
  refine wloop mxd (ι := { i : Nat // i ≤ l.length ∧ ∀ y ∈ l.take i, decide (y = x) = false }) (fun i => [(0, IS l), (1, I x), (5, I i.1)]) (fun _ => []) (fun i => l.length - i.1) ⟨0, by simp⟩ (by simp [E2]) rfl ?_
  rintro ⟨i, hi, hn⟩
  (refine R0 ?_; with_reducible repeat' first | exact trivial | intro h | refine aO ?_ | refine eO ?_ | apply And.intro)
  · rw [hasI_hit (by assumption) h]
  · exact nx ⟨i + 1, by omega, take_step (by assumption) (by simpa using h) hn⟩ (by simp; omega) (by simp [E2]) rfl
  · have : i = l.length := by omega
    subst this
    rw [List.take_of_length_le (Nat.le_refl _)] at hn
    rw [hasI_none hn]
theorem w181 (t : List Nod) (hl : t.length ≤ 1048576) : Pure Tryz.prog 181 [Tr t] (· = B (idsV t && decide (1 ≤ t.length ∧ t.length ≤ 16))) := by
  refine Pure.bor ?_
  refine gstart mxd i181 rfl (by simp) ?_; refine X0 ?_
  (refine R0 ?_; with_reducible repeat' first | exact trivial | intro h | refine aO ?_ | refine eO ?_ | apply And.intro)
  rename_i r
  refine ploop mxd (ι := { x : Nat × Nat // x.2 ≤ t.length ∧ ∀ j, j < x.2 → gid t j = true }) (fun x => [(1, .rop 1 (Tr t)), (3, .own x.1.1 1 0 x.1.2), (4, I x.1.2)]) (fun x => [(x.1.1, 1, ((t.take x.1.2).map (·.id)).map I)]) (fun x => t.length - x.1.2) ⟨(r, 0), by simp⟩ (by simp [E2]) (by simp [subH, hget, names]) ?_
  rintro ⟨⟨r, i⟩, hi, hn⟩ -
  dsimp only at hi hn ⊢
  rcases Nat.lt_or_ge i t.length with hlt | hge
  · (repeat' (first | (with_reducible refine callS.eq (w85 _ _ _) ?_) | simp (maxSteps := 9^7) only [↓ S2, S2, vIte, ↓reduceIte, reduceNe, reduceEqDiff, reduceCtorEq, reduceLeDiff, reduceAdd, reduceLT] | simp only [brGen] | simp +contextual (disch := omega) only [Z2] | with_reducible first | intro h | refine And.intro (by omega) ?_ | refine exP (by omega) ?_ | apply And.intro))
    all_goals try (exfalso; omega)
    · refine callS.borA (w130 ((t.take i).map (·.id)) t[i].id) (.cons (bor_IS hget_new (by simp; omega)) (.cons .refl .nil)) rfl ?_
      (refine R0 ?_; with_reducible repeat' first | exact trivial | intro h | refine aO ?_ | refine eO ?_ | apply And.intro)
      · rw [hasI_map] at h
        rw [idsV_bad hlt (gid_f2 hlt h)]
        exact .refl
      · rename_i q2
        have h2 := neH_of h
        (replace h2 := h2; simp only [VN] at h2)
        ((try refine qI ?_); (repeat ((first | with_reducible refine qU ?_ | simp only [brGen]); try simp (maxSteps := 9^7) only [↓ S2, S2, vIte, ↓reduceIte, reduceNe, reduceEqDiff, reduceCtorEq, reduceLeDiff, reduceAdd, reduceLT, hget_c, hset_c, hdel_c, h2, t_ldf])); (try simp +contextual (disch := omega) only [Z2, hget_c, hset_c, hdel_c, h2, t_ldf]); (with_reducible repeat' (first | intro h | refine And.intro (by omega) ?_ | refine exP (by omega) ?_ | apply And.intro)))
        · simp; omega
        rename_i hh _ _ _ q3
        have h3 := neH_of h
        (replace h3 := h3; simp only [VN] at h3)
        rw [takeApp2 I (·.id) t i hlt]
        refine px ⟨(q3, i + 1), by omega, fun j hj => ?_⟩ (by simp; omega) (by simp [E2]) (by simp [subH, hget, names, h3])
        rcases Nat.lt_or_ge j i with hji | hji
        · exact hn j hji
        · have : j = i := by omega
          subst this
          exact gid_t hlt (by assumption) (by rw [← hasI_map]; assumption)
    · rw [idsV_bad hlt (gid_f1 hlt (by assumption))]
      exact .refl
  · have : i = t.length := by omega
    subst this
    (repeat' (first | (with_reducible refine callS.eq (w85 _ _ _) ?_) | simp (maxSteps := 9^7) only [↓ S2, S2, vIte, ↓reduceIte, reduceNe, reduceEqDiff, reduceCtorEq, reduceLeDiff, reduceAdd, reduceLT] | simp only [brGen] | simp +contextual (disch := omega) only [Z2] | with_reducible first | intro h | refine And.intro (by omega) ?_ | refine exP (by omega) ?_ | apply And.intro))
    have e : B (decide (1 ≤ (t.length : Int) ∧ (t.length : Int) ≤ 16)) = B (idsV t && decide (1 ≤ t.length ∧ t.length ≤ 16)) := by rw [idsV_ok hn, Bool.true_and]; exact bEq (by omega)
    rw [← e]
    exact .refl
theorem w249 (x y : Nod) : Pure Tryz.prog 249 [Nd x, .rop 6 (Nd y)] (· = B (decide (x.id = y.id))) := by
  refine gstart mxd i249 rfl (by simp) ?_; refine X0 ?_
  try (refine R0 ?_; with_reducible repeat' first | exact trivial | intro h | refine aO ?_ | refine eO ?_ | apply And.intro)
theorem w248 (t : List Nod) (f : Nat) (cs : List GV) (p : Nod → Bool) (hp : ∀ x ∈ t, Pure Tryz.prog f (Nd x :: cs) (· = B (p x))) :
    Pure Tryz.prog 248 [NdS t, .clo f cs] (· = B (t.any p)) := by
  refine gstart mxd i248 rfl (by simp) ?_; refine X0 ?_
  refine callS.eq (w251 t f cs p hp) ?_
  (refine R0 ?_; with_reducible repeat' first | exact trivial | intro h | refine aO ?_ | refine eO ?_ | apply And.intro)
  rw [← any_ix]
theorem w200 (g : Gram) (t : List Nod) (s : ByteArray) (hg : smGr g) (hl : t.length ≤ 1048576) (hk : ∀ x ∈ t, x.kids.length ≤ 1048576) : Pure Tryz.prog 200 [Gr g, Tr t, T s] (· = B (treeOf g t s)) := by
  refine gstart mxd i200 rfl (by simp) ?_; refine X0 ?_
  refine callS.eq (w73 _ _ _) ?_
  (refine R0 ?_; with_reducible repeat' first | exact trivial | intro h | refine aO ?_ | refine eO ?_ | apply And.intro)
  rotate_left
  · simp only [treeOf]; rw [decide_eq_false (by omega)]; rfl
  refine wloop mxd (ι := { i : Nat // i ≤ t.length ∧ ∀ j, j < i → gid t j = true }) (fun i => [(2, T s), (3, .rop 2 (Gr g)), (4, .rop 1 (Tr t)), (15, NdS t), (16, I t.length), (17, I i.1)]) (fun _ => []) (fun i => t.length - i.1) ⟨0, by simp⟩ (by simp [E2]) rfl ?_
  rintro ⟨i, hi, hn⟩
  rcases Nat.lt_or_ge i t.length with hlt | hge
  · (repeat' (first | (with_reducible refine callS.eq (w73 _ _ _) ?_) | simp (maxSteps := 9^7) only [↓ S2, S2, vIte, ↓reduceIte, reduceNe, reduceEqDiff, reduceCtorEq, reduceLeDiff, reduceAdd, reduceLT] | simp only [brGen] | simp +contextual (disch := omega) only [Z2] | with_reducible first | intro h | refine And.intro (by omega) ?_ | refine exP (by omega) ?_ | apply And.intro))
    all_goals try (exfalso; omega)
    · rw [show List.drop (Int.toNat 0) (List.take i (List.map Nd t)) = (t.take i).map Nd from by simp [List.map_take]]
      refine callS.eq (w248 (t.take i) _ _ (fun y => decide (y.id = t[i].id)) fun x _ => w249 x t[i]) ?_
      (refine R0 ?_; with_reducible repeat' first | exact trivial | intro h | refine aO ?_ | refine eO ?_ | apply And.intro)
      · rw [treeOf_bad (idsV_bad hlt (gid_f2 hlt h))]
      · refine nx ⟨i + 1, by omega, fun j hj => ?_⟩ (by simp; omega) (by simp [E2]) rfl
        rcases Nat.lt_or_ge j i with hji | hji
        · exact hn j hji
        · have : j = i := by omega
          subst this
          exact gid_t hlt (by assumption) h
    · rw [treeOf_bad (idsV_bad hlt (gid_f1 hlt (by assumption)))]
  · have : i = t.length := by omega
    subst this
    have hw := w250 g t hg hl hk t.length 0 (-1) 0 s (by omega)
    simp only [Int.natCast_zero] at hw
    (repeat' (first | (with_reducible refine callS.eq (hw) ?_) | simp (maxSteps := 9^7) only [↓ S2, S2, vIte, ↓reduceIte, reduceNe, reduceEqDiff, reduceCtorEq, reduceLeDiff, reduceAdd, reduceLT] | simp only [brGen] | simp +contextual (disch := omega) only [Z2] | with_reducible first | intro h | refine And.intro (by omega) ?_ | refine exP (by omega) ?_ | apply And.intro))
    simp only [treeOf, idsV_ok hn, Bool.true_and]
    rw [decide_eq_true (show 1 ≤ t.length ∧ t.length ≤ 16 by omega), Bool.true_and]
theorem w114 (g : Gram) (t : List Nod) (s : ByteArray) (hg : smGr g) (hl : t.length ≤ 1048576) (hk : ∀ x ∈ t, x.kids.length ≤ 1048576) : Pure Tryz.prog 114 [Gr g, Tr t, T s] (· = B (treeOf g t s)) := by
  have hw := w182 g t hg hl hk t.length 0 (-1) 0 s (by omega)
  simp only [Int.natCast_zero] at hw
  refine gstart mxd i114 rfl (by simp) ?_; refine X0 ?_
  (repeat' (first | (with_reducible refine callS.eq (w181 t hl) ?_) | (with_reducible refine callS.eq (hw) ?_) | simp (maxSteps := 9^7) only [↓ S2, S2, vIte, ↓reduceIte, reduceNe, reduceEqDiff, reduceCtorEq, reduceLeDiff, reduceAdd, reduceLT] | simp only [brGen] | simp +contextual (disch := omega) only [Z2] | with_reducible first | intro h | refine And.intro (by omega) ?_ | refine exP (by omega) ?_ | apply And.intro))
  all_goals first | (simp_all [treeOf]; done) | (simp_all [treeOf]; intros; omega)
theorem w136 (g : Gram) (t : List Nod) (hg : smGr g) (hl : t.length ≤ 1048576) (hk : ∀ x ∈ t, x.kids.length ≤ 1048576) : Pure Tryz.prog 136 [Gr g, Tr t] (· = B (treeOf g t (symN g t 0))) := by
  refine gstart mxd i136 rfl (by simp) ?_; refine X0 ?_
  (repeat' (first | (with_reducible refine callS.eq (w137 g t 0 hg) ?_) | (with_reducible refine callS.eq (w200 g t _ hg hl hk) ?_) | simp (maxSteps := 9^7) only [↓ S2, S2, vIte, ↓reduceIte, reduceNe, reduceEqDiff, reduceCtorEq, reduceLeDiff, reduceAdd, reduceLT, maxLv] | simp only [brGen] | simp +contextual (disch := omega) only [Z2] | with_reducible first | intro h | refine And.intro (by omega) ?_ | refine exP (by omega) ?_ | apply And.intro))
theorem o57 (g : Gram) (t : List Nod) (hg : smGr g) (hl : t.length ≤ 1048576) (hk : ∀ x ∈ t, x.kids.length ≤ 1048576) (H : GH) : GCalls Tryz.prog 57 [Gr g, Tr t] H (fun v H' => ∃ H1, (∃ r, v = .own r 2 0 (insL g t).length ∧ H1 = [(r, 2, (insL g t).map Ins)]) ∧ H' = H1 ++ H) := by
  refine gstart mxd i57 rfl (by simp) ?_; refine X0 ?_
  (refine V0 ?_; with_reducible repeat' first | exact trivial | intro h | refine aO ?_ | refine eO ?_ | apply And.intro)
  rename_i r0
  refine callS.eq (w115 g t 0 hg) ?_
  (refine V0 ?_; with_reducible repeat' first | exact trivial | intro h | refine aO ?_ | refine eO ?_ | apply And.intro)
  refine callS.eq (w114 g t _ hg hl hk) ?_
  have hil := insL_len hg t
  by_cases ht : treeOf g t (symN g t 0) = true
  · have htl := treeOf_len ht
    have hia := insA_len hg t
    rw [insL, if_pos ht] at hil ⊢
    (refine V1 ht ?_; with_reducible repeat' first | exact trivial | intro h | refine aO ?_ | refine eO ?_ | apply And.intro)
    refine wloopN mxd (ι := { y : Nat × Nat // y.2 ≤ t.length }) (fun y => [(2, .rop 2 (Gr g)), (3, .rop 1 (Tr t)), (5, .own y.1.1 2 0 (insA g t y.1.2).length), (6, I y.1.2)]) (fun y => (y.1.1, 2, (insA g t y.1.2).map Ins) :: H) (fun y => t.length - y.1.2) ⟨(r0, 0), by simp⟩ (by simp [E2, insA]) (by simp [insA]) ?_
    rintro ⟨⟨q, i⟩, hi⟩ hn
    dsimp only at hi hn ⊢
    replace hn := neH_of hn
    (replace hn := hn; simp only [VN] at hn)
    rcases Nat.lt_or_ge i t.length with hlt | hge
    · (refine V1 hn ?_; with_reducible repeat' first | exact trivial | intro h | refine aO ?_ | refine eO ?_ | apply And.intro)
      all_goals try (exfalso; omega)
      refine callS.eq (w115 g t i hg) ?_
      (refine V1 hn ?_; with_reducible repeat' first | exact trivial | intro h | refine aO ?_ | refine eO ?_ | apply And.intro)
      refine callS.eq (w91 g _ hg) ?_
      (refine V1 hn ?_; with_reducible repeat' first | exact trivial | intro h | refine aO ?_ | refine eO ?_ | apply And.intro)
      have hsl : (fSym g.syms (symN g t i)).atts.length ≤ 1048576 := smSy_f hg _
      have hik : insK g t i = (fSym g.syms (symN g t i)).atts.map fun a => (t[i].id, a.name) := by simp only [insK]; rw [getD_lt hlt]
      have hai := hia i
      generalize fSym g.syms (symN g t i) = s at *
      refine wloopN mxd (ι := { y : Nat × Nat // y.2 ≤ s.atts.length }) (fun y => [(2, .rop 2 (Gr g)), (3, .rop 1 (Tr t)), (5, .own y.1.1 2 0 ((insA g t i).length + y.1.2)), (6, I i), (7, .rop 2 (Sy s)), (9, I y.1.2)]) (fun y => (y.1.1, 2, (insA g t i ++ (insK g t i).take y.1.2).map Ins) :: H) (fun y => s.atts.length - y.1.2) ⟨(q, 0), by simp⟩ (by simp [E2]) (by simp) ?_
      rintro ⟨⟨q2, k⟩, hk2⟩ hn2
      dsimp only at hk2 hn2 ⊢
      replace hn2 := neH_of hn2
      (replace hn2 := hn2; simp only [VN] at hn2)
      have hkl : (insK g t i).length = s.atts.length := by rw [hik]; simp
      rcases Nat.lt_or_ge k s.atts.length with hlt2 | hge2
      · (refine V1 (jO hn2 (jO @List.length_append.{0} (jO @List.length_singleton.{0} (jO @List.length_map.{0,0} (jO @List.length_take.{0} @maxLv))))) ?_; with_reducible repeat' first | exact trivial | intro h | refine aO ?_ | refine eO ?_ | apply And.intro)
        all_goals try (exfalso; omega)
        rename_i r3 _ r4
        refine nxF ⟨(r4, k + 1), by omega⟩ (by simp; omega) (FE.perm (H := [_, _]) (L := [(r4, _)]) (by repeat' (first | exact trivial | (refine And.intro (by simp only [hget_c, *, if_true, if_false]; try rfl) (And.intro (by simp [names_cons, names_nil, *]) ?_))))) (by simp [E2]; omega) ?_
        have hk3 : k < (insK g t i).length := by omega
        have hx : (insK g t i)[k] = (t[i].id, s.atts[k].name) := by simp only [hik, List.getElem_map]
        have e := takeApp3 Ins (insA g t i) (insK g t i) k hk3 ((insA g t i).length + k) (by simp; omega)
        rw [hx] at e
        rw [← hik]
        exact congrArg (fun l => (r4, 2, l) :: H) e
      · obtain rfl : k = s.atts.length := by omega
        (refine V1 (jO hn2 @maxLv) ?_; with_reducible repeat' first | exact trivial | intro h | refine aO ?_ | refine eO ?_ | apply And.intro)
        all_goals try (exfalso; omega)
        have ha : insA g t (i + 1) = insA g t i ++ insK g t i := rfl
        refine nx ⟨(q2, i + 1), by omega⟩ (by simp; omega) (by simp [E2, ha, hkl]) ?_
        rw [ha, List.take_of_length_le (by omega)]
    · obtain rfl : i = t.length := by omega
      (refine V1 hn ?_; with_reducible repeat' first | exact trivial | intro h | refine aO ?_ | refine eO ?_ | apply And.intro)
      all_goals try (exfalso; omega)
      exact ⟨_, ⟨q, rfl, rfl⟩, rfl⟩
  · rw [insL, if_neg ht]
    have ht' : treeOf g t (symN g t 0) = false := by simpa using ht
    (refine V1 ht' ?_; with_reducible repeat' first | exact trivial | intro h | refine aO ?_ | refine eO ?_ | apply And.intro)
    exact ⟨_, ⟨r0, rfl, rfl⟩, rfl⟩
theorem o74 (g : Gram) (t : List Nod) (hg : smGr g) (hl : t.length ≤ 1048576) (hk : ∀ x ∈ t, x.kids.length ≤ 1048576) (H : GH) : GCalls Tryz.prog 74 [Gr g, Tr t] H (fun v H' => ∃ H1, (∃ r, v = .own r 2 0 (insL g t).length ∧ H1 = [(r, 2, (insL g t).map Ins)]) ∧ H' = H1 ++ H) := by
  refine gstart mxd i74 rfl (by simp) ?_; refine X0 ?_
  (refine V0 ?_; with_reducible repeat' first | exact trivial | intro h | refine aO ?_ | refine eO ?_ | apply And.intro)
  rename_i r0
  refine callS.eq (w136 g t hg hl hk) ?_
  have hil := insL_len hg t
  by_cases ht : treeOf g t (symN g t 0) = true
  · have htl := treeOf_len ht
    have hia := insA_len hg t
    rw [insL, if_pos ht] at hil ⊢
    (refine V1 ht ?_; with_reducible repeat' first | exact trivial | intro h | refine aO ?_ | refine eO ?_ | apply And.intro)
    refine wloopN mxd (ι := { y : Nat × Nat // y.2 ≤ t.length }) (fun y => [(2, .rop 2 (Gr g)), (3, .rop 1 (Tr t)), (5, .own y.1.1 2 0 (insA g t y.1.2).length), (19, NdS t), (20, I t.length), (21, I y.1.2)]) (fun y => (y.1.1, 2, (insA g t y.1.2).map Ins) :: H) (fun y => t.length - y.1.2) ⟨(r0, 0), by simp⟩ (by simp [E2, insA]) (by simp [insA]) ?_
    rintro ⟨⟨q, i⟩, hi⟩ hn
    dsimp only at hi hn ⊢
    replace hn := neH_of hn
    (replace hn := hn; simp only [VN] at hn)
    rcases Nat.lt_or_ge i t.length with hlt | hge
    · (refine V1 hn ?_; with_reducible repeat' first | exact trivial | intro h | refine aO ?_ | refine eO ?_ | apply And.intro)
      all_goals try (exfalso; omega)
      refine callS.eq (w137 g t i hg) ?_
      (refine V1 hn ?_; with_reducible repeat' first | exact trivial | intro h | refine aO ?_ | refine eO ?_ | apply And.intro)
      refine callS.eq (w103 g _ hg) ?_
      (refine V1 hn ?_; with_reducible repeat' first | exact trivial | intro h | refine aO ?_ | refine eO ?_ | apply And.intro)
      have hsl : (fSym g.syms (symN g t i)).atts.length ≤ 1048576 := smSy_f hg _
      have hik : insK g t i = (fSym g.syms (symN g t i)).atts.map fun a => (t[i].id, a.name) := by simp only [insK]; rw [getD_lt hlt]
      have hai := hia i
      generalize fSym g.syms (symN g t i) = s at *
      refine wloopN mxd (ι := { y : Nat × Nat // y.2 ≤ s.atts.length }) (fun y => [(2, .rop 2 (Gr g)), (3, .rop 1 (Tr t)), (5, .own y.1.1 2 0 ((insA g t i).length + y.1.2)), (19, NdS t), (20, I t.length), (21, I i), (7, .rop 6 (Nd t[i])), (36, AtS s.atts), (37, I s.atts.length), (38, I y.1.2)]) (fun y => (y.1.1, 2, (insA g t i ++ (insK g t i).take y.1.2).map Ins) :: H) (fun y => s.atts.length - y.1.2) ⟨(q, 0), by simp⟩ (by simp [E2]) (by simp) ?_
      rintro ⟨⟨q2, k⟩, hk2⟩ hn2
      dsimp only at hk2 hn2 ⊢
      replace hn2 := neH_of hn2
      (replace hn2 := hn2; simp only [VN] at hn2)
      have hkl : (insK g t i).length = s.atts.length := by rw [hik]; simp
      rcases Nat.lt_or_ge k s.atts.length with hlt2 | hge2
      · (refine V1 (jO hn2 (jO @List.length_append.{0} (jO @List.length_singleton.{0} (jO @List.length_map.{0,0} (jO @List.length_take.{0} @maxLv))))) ?_; with_reducible repeat' first | exact trivial | intro h | refine aO ?_ | refine eO ?_ | apply And.intro)
        all_goals try (exfalso; omega)
        rename_i r3 _ r4
        refine nxF ⟨(r4, k + 1), by omega⟩ (by simp; omega) (FE.perm (H := [_, _]) (L := [(r4, _)]) (by repeat' (first | exact trivial | (refine And.intro (by simp only [hget_c, *, if_true, if_false]; try rfl) (And.intro (by simp [names_cons, names_nil, *]) ?_))))) (by simp [E2]; omega) ?_
        have hk3 : k < (insK g t i).length := by omega
        have hx : (insK g t i)[k] = (t[i].id, s.atts[k].name) := by simp only [hik, List.getElem_map]
        have e := takeApp3 Ins (insA g t i) (insK g t i) k hk3 ((insA g t i).length + k) (by simp; omega)
        rw [hx] at e
        rw [← hik]
        exact congrArg (fun l => (r4, 2, l) :: H) e
      · obtain rfl : k = s.atts.length := by omega
        (refine V1 (jO hn2 @maxLv) ?_; with_reducible repeat' first | exact trivial | intro h | refine aO ?_ | refine eO ?_ | apply And.intro)
        all_goals try (exfalso; omega)
        have ha : insA g t (i + 1) = insA g t i ++ insK g t i := rfl
        refine nx ⟨(q2, i + 1), by omega⟩ (by simp; omega) (by simp [E2, ha, hkl]) ?_
        rw [ha, List.take_of_length_le (by omega)]
    · obtain rfl : i = t.length := by omega
      (refine V1 hn ?_; with_reducible repeat' first | exact trivial | intro h | refine aO ?_ | refine eO ?_ | apply And.intro)
      all_goals try (exfalso; omega)
      exact ⟨_, ⟨q, rfl, rfl⟩, rfl⟩
  · rw [insL, if_neg ht]
    have ht' : treeOf g t (symN g t 0) = false := by simpa using ht
    (refine V1 ht' ?_; with_reducible repeat' first | exact trivial | intro h | refine aO ?_ | refine eO ?_ | apply And.intro)
    exact ⟨_, ⟨r0, rfl, rfl⟩, rfl⟩
theorem q57 (g : Gram) (t : List Nod) (hg : smGr g) (hl : t.length ≤ 1048576) (hk : ∀ x ∈ t, x.kids.length ≤ 1048576) : Pure Tryz.prog 57 [Gr g, Tr t] (· = InsS (insL g t)) :=
  Pure.bor ((o57 g t hg hl hk []).mono fun v H' ⟨H1, ⟨r, h1, h2⟩, h3⟩ => by
    subst h1; subst h2; subst h3
    exact bor_Ins hget_new rfl)
theorem q74 (g : Gram) (t : List Nod) (hg : smGr g) (hl : t.length ≤ 1048576) (hk : ∀ x ∈ t, x.kids.length ≤ 1048576) : Pure Tryz.prog 74 [Gr g, Tr t] (· = InsS (insL g t)) :=
  Pure.bor ((o74 g t hg hl hk []).mono fun v H' ⟨H1, ⟨r, h1, h2⟩, h3⟩ => by
    subst h1; subst h2; subst h3
    exact bor_Ins hget_new rfl)
theorem q138 (g : Gram) (t : List Nod) (x : Int × ByteArray) (hg : smGr g) (hl : t.length ≤ 1048576) : Pure Tryz.prog 138 [Gr g, Tr t, Ins x] (· = .tup [DfG (defO g t x) (defE g t x), B (defB g t x)]) :=
  Pure.bor ((o138 g t x hg hl []).mono fun v H' ⟨H1, ⟨r, h1, h2⟩, h3⟩ => by
    subst h1; subst h2; subst h3
    exact .tup (.cons (bor_Df hget_new rfl) (.cons .refl .nil)))
end Go.Proofs.YtbdmpkidcpblaaaGreat
