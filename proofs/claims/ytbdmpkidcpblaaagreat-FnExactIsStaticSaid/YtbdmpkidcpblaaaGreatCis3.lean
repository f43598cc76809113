/- The laws FnExactIsSolution and FnExactIsStatic return true whatever the input, and the input reads behind the call as before. No condition. -/
import Derived.Test.YtbdmpkidcpblaaaGreatCis2
namespace Go.Proofs.YtbdmpkidcpblaaaGreat
open Go.Gh
open Nat (reduceEqDiff reduceLeDiff reduceAdd reduceLT)
open Int (reduceNe)
set_option maxRecDepth 20000
set_option linter.unusedSimpArgs false
set_option linter.unusedVariables false
theorem o253 : ∀ (e : Exp), wEx e ≤ 1048576 → ∀ H, GCalls Tryz.prog 253 [Ex e] H (fun g H' => ∃ r, g = .agg [I e.kind, I e.n, I e.pos, I e.type, T e.sym, T e.name, .own r 7 0 e.args.length] ∧ H' = (r, 7, e.args.map ExO) :: H) := by
  refine Exp.indA fun e ih hw H => ?_
  obtain ⟨hl, ha⟩ := args_small hw
  have h0 : GCalls Tryz.prog 253 [Ex e] H (fun g H' => ∃ r r0 u, ¬ r = r0 ∧ g = .agg [I e.kind, I e.n, I e.pos, I e.type, T e.sym, T e.name, .own r 7 0 e.args.length] ∧ H' = (r, 7, e.args.map ExO) :: (r0, 7, u) :: H) := by
    rw [Ex_eq]
    refine gstart mxd i253 rfl (by simp) ?_; refine X0 ?_
    (refine V0 ?_; with_reducible repeat' first | exact trivial | intro h | refine aO ?_ | refine eO ?_ | apply And.intro)
    rename_i rb
    obtain ⟨q0, ho, hq⟩ := vfresh (names ((rb, 7, [GV.agg [I e.kind, I e.n, I e.pos, I e.type, T e.sym, T e.name, ExS e.args]]) :: H))
    refine wloopF mxd (ι := { y : Nat × Nat // y.2 ≤ e.args.length }) (fun y => [(1, .ptr rb 7 0 0), (2, .raw 7), (3, .own y.1.1 7 0 y.1.2), (7, ExS e.args), (8, I e.args.length), (9, I y.1.2)]) (fun y => (y.1.1, 7, (e.args.take y.1.2).map ExO) :: (rb, 7, [.agg [I e.kind, I e.n, I e.pos, I e.type, T e.sym, T e.name, ExS e.args]]) :: H) (fun y => e.args.length - y.1.2) ⟨(q0, 0), by simp⟩ (FE.virt (j := 3) (sz := 7) rfl ho hq) (by simp [E2, eset]) rfl ?_
    rintro ⟨⟨q, k⟩, hk⟩ hn
    dsimp only at hk hn ⊢
    refine gwp_ok mxd ?_
    replace hn := neH_of hn
    (replace hn := hn; simp only [VN] at hn)
    rcases Nat.lt_or_ge k e.args.length with hlt | hge
    · (refine V1 (jO hn (jO @XE (jO @List.length_append.{0} (jO @List.length_singleton.{0} (jO @List.length_map.{0,0} (jO @List.length_take.{0} @maxLv)))))) ?_; with_reducible repeat' first | exact trivial | intro h | refine aO ?_ | refine eO ?_ | apply And.intro)
      all_goals try (exfalso; omega)
      refine callS.of (ih e.args[k] (List.getElem_mem _) (ha _ (List.getElem_mem _)) _) ?_
      rintro g H' ⟨rc, rfl, rfl⟩ hnc
      replace hnc := neH_of hnc
      (replace hnc := hnc; simp only [VN] at hnc)
      (refine V1 (jO hn (jO hnc (jO @List.length_append.{0} (jO @List.length_singleton.{0} (jO @List.length_map.{0,0} (jO @List.length_take.{0} @maxLv)))))) ?_; with_reducible repeat' first | exact trivial | intro h | refine aO ?_ | refine eO ?_ | apply And.intro)
      all_goals try (exfalso; omega)
      rename_i r3 _ r4
      refine nxF ⟨(r4, k + 1), by omega⟩ (by simp; omega) (FE.trans (FE.perm (H := [_, _, _, _]) (L := [(r4, _), (rc, _), (rb, _)]) (by repeat' (first | exact trivial | (refine And.intro (by simp only [hget_c, *, if_true, if_false]; try rfl) (And.intro (by simp [names_cons, names_nil, *]) ?_))))) (FE.closeL2 (j := 6) (by simp [*]) rfl (by simp))) (by simp [E2]) ?_
      rw [List.take_of_length_le (by simp; omega), ← take_snocM ExO hlt, ExO_eq]
      rfl
    · obtain rfl : k = e.args.length := by omega
      (refine V1 (jO hn (jO @XE @maxLv)) ?_; with_reducible repeat' first | exact trivial | intro h | refine aO ?_ | refine eO ?_ | apply And.intro)
      all_goals try (exfalso; omega)
      rw [List.take_length]
      exact ⟨q, rb, _, hn.1.1, rfl, rfl⟩
  refine h0.fr ?_
  rintro g H' ⟨r, r0, u, hne, rfl, rfl⟩
  exact ⟨_, _, FR.perm (H := [_, _]) (L := [(r, 7, e.args.map ExO)]) (by simp [subH, hget, names]), r, rfl, rfl⟩
theorem w186 (r : Rul) (o : Int × ByteArray) (hr : smRu r) : Pure Tryz.prog 186 [Ru r, Occ o] (· = .tup [Ex (eqnE r o), B (eqnF r o).isSome]) := by
  refine Pure.bor ?_
  have hlen := hr.2.1
  refine gstart mxd i186 rfl (by simp) ?_; refine X0 ?_
  refine wloop mxd (ι := { i : Nat // i ≤ r.eqs.length ∧ ∀ y ∈ r.eqs.take i, decide (y.pos = o.1 ∧ y.name = o.2) = false }) (fun i => [(2, .rop 6 (Ru r)), (3, .rop 2 (Occ o)), (4, .raw 7), (6, I i.1)]) (fun _ => []) (fun i => r.eqs.length - i.1) ⟨0, by simp⟩ (by simp [E2]) rfl ?_
  rintro ⟨i, hi, hn⟩
  rcases Nat.lt_or_ge i r.eqs.length with hlt | hge
  · by_cases he : r.eqs[i].pos = o.1 ∧ r.eqs[i].name = o.2
    · (refine V1 (jO @XE (jO he (jO @and_self @decide_true))) ?_; with_reducible repeat' first | exact trivial | intro h | refine aO ?_ | refine eO ?_ | apply And.intro)
      all_goals try (exfalso; omega)
      refine callS.eq (w232 r.eqs[i].expr (hr.2.2.2.1 _ (List.getElem_mem _))) ?_
      (refine V1 @XE ?_; with_reducible repeat' first | exact trivial | intro h | refine aO ?_ | refine eO ?_ | apply And.intro)
      have e := find_hit (p := fun x : Eqn => decide (x.pos = o.1 ∧ x.name = o.2)) (xs := r.eqs) (i := i) hlt (by simp [he]) hn
      simp only [eqnE, eqnF, e]
      exact .refl
    · (refine V1 @XE ?_; with_reducible repeat' first | exact trivial | intro h | refine aO ?_ | refine eO ?_ | apply And.intro)
      all_goals first
        | exact nx ⟨i + 1, by omega, take_step hlt (by simp [he]) hn⟩ (by simp; omega) (by simp [E2]) rfl
        | (exfalso; omega)
        | (exfalso; exact he ⟨by assumption, by assumption⟩)
  · have : i = r.eqs.length := by omega
    subst this
    rw [List.take_of_length_le (Nat.le_refl _)] at hn
    have e := find_none hn
    (refine V1 @XE ?_; with_reducible repeat' first | exact trivial | intro h | refine aO ?_ | refine eO ?_ | apply And.intro)
    all_goals try (exfalso; omega)
    simp only [eqnE, eqnF, e]
    exact .tup (.cons (.agg (.cons .refl (.cons .refl (.cons .refl (.cons .refl (.cons .refl (.cons .refl (.cons .nil .nil)))))))) (.cons .refl .nil))
theorem o205 (r : Rul) (o : Int × ByteArray) (hr : smRu r) (H : GH) : GCalls Tryz.prog 205 [Ru r, Occ o] H (fun g H' => ∃ q, g = .tup [.agg [I (eqnE r o).kind, I (eqnE r o).n, I (eqnE r o).pos, I (eqnE r o).type, T (eqnE r o).sym, T (eqnE r o).name, .own q 7 0 (eqnE r o).args.length], B (eqnF r o).isSome] ∧ H' = (q, 7, (eqnE r o).args.map ExO) :: H) := by
  have h0 : GCalls Tryz.prog 205 [Ru r, Occ o] H (fun g H' => (∃ q, g = .tup [.agg [I (eqnE r o).kind, I (eqnE r o).n, I (eqnE r o).pos, I (eqnE r o).type, T (eqnE r o).sym, T (eqnE r o).name, .own q 7 0 (eqnE r o).args.length], B (eqnF r o).isSome] ∧ H' = (q, 7, (eqnE r o).args.map ExO) :: H) ∨ (eqnF r o = none ∧ g = .tup [.agg [I 0, I 0, I 0, I 0, T noS, T noS, .val (.slice none 0 0)], B false] ∧ H' = H)) := by
    have hlen := hr.2.1
    refine gstart mxd i205 rfl (by simp) ?_; refine X0 ?_
    refine wloop mxd (ι := { i : Nat // i ≤ r.eqs.length ∧ ∀ y ∈ r.eqs.take i, decide (y.pos = o.1 ∧ y.name = o.2) = false }) (fun i => [(3, .rop 2 (Occ o)), (4, .raw 7), (9, QnS r.eqs), (10, I r.eqs.length), (11, I i.1)]) (fun _ => H) (fun i => r.eqs.length - i.1) ⟨0, by simp⟩ (by simp [E2]) rfl ?_
    rintro ⟨i, hi, hn⟩
    rcases Nat.lt_or_ge i r.eqs.length with hlt | hge
    · by_cases he : r.eqs[i].pos = o.1 ∧ r.eqs[i].name = o.2
      · (refine V1 (jO @XE (jO he (jO @and_self @decide_true))) ?_; with_reducible repeat' first | exact trivial | intro h | refine aO ?_ | refine eO ?_ | apply And.intro)
        all_goals try (exfalso; omega)
        refine callS.of (o253 r.eqs[i].expr (hr.2.2.2.1 _ (List.getElem_mem _)) _) ?_
        rintro g H' ⟨q, rfl, rfl⟩ hq
        (refine V1 @XE ?_; with_reducible repeat' first | exact trivial | intro h | refine aO ?_ | refine eO ?_ | apply And.intro)
        have e := find_hit (p := fun x : Eqn => decide (x.pos = o.1 ∧ x.name = o.2)) (xs := r.eqs) (i := i) hlt (by simp [he]) hn
        simp only [eqnE, eqnF, e]
        exact .inl ⟨q, rfl, rfl⟩
      · (refine V1 @XE ?_; with_reducible repeat' first | exact trivial | intro h | refine aO ?_ | refine eO ?_ | apply And.intro)
        all_goals first
          | exact nx ⟨i + 1, by omega, take_step hlt (by simp [he]) hn⟩ (by simp; omega) (by simp [E2]) rfl
          | (exfalso; omega)
          | (exfalso; exact he ⟨by assumption, by assumption⟩)
    · have : i = r.eqs.length := by omega
      subst this
      rw [List.take_of_length_le (Nat.le_refl _)] at hn
      have e := find_none hn
      (refine V1 @XE ?_; with_reducible repeat' first | exact trivial | intro h | refine aO ?_ | refine eO ?_ | apply And.intro)
      all_goals try (exfalso; omega)
      exact .inr ⟨e, rfl⟩
  refine h0.fr ?_
  rintro g H' (⟨q, rfl, rfl⟩ | ⟨e, rfl, rfl⟩)
  · exact ⟨_, _, FR.refl _ _, q, rfl, rfl⟩
  · refine ⟨_, _, FR.trans (FR.addv (r := vname H') (sz := 7) (vname_odd H') (vname_new H')) (FR.sub (.tup (.cons (.agg (nilL_bor (l := [_, _, _, _, _, _]) (r := vname H') (sz := 7))) (.cons .refl .nil)))), vname H', ?_, ?_⟩
    · simp only [eqnE, e]; rfl
    · simp only [eqnE, e]; rfl
set_option maxHeartbeats 4000000 in
theorem w116 (g : Gram) (t : List Nod) (x : Int × ByteArray) (hg : smGr g) (hl : t.length ≤ 1048576) : Pure Tryz.prog 116 [Gr g, Tr t, Ins x] (· = .tup [DfG (defO g t x) (defE g t x), B (defB g t x)]) := by
  refine Pure.bor ?_
  have hz : Bor [] (.tup [.agg [I 0, I 0, I 0, I 0, I 0, T noS, T noS, .val (.slice none 0 0)], B false]) (.tup [DfG 0 expZ, B false]) := .tup (.cons (.agg (.cons .refl (.cons .refl (.cons .refl (.cons .refl (.cons .refl (.cons .refl (.cons .refl (.cons .nil .nil))))))))) (.cons .refl .nil))
  refine gstart mxd i116 rfl (by simp) ?_; refine X0 ?_
  refine callS.eq (w184 g t x hg) ?_
  (refine V0 ?_; with_reducible repeat' first | exact trivial | intro h | refine aO ?_ | refine eO ?_ | apply And.intro)
  refine callS.eq (w185 t x.1) ?_
  by_cases h1 : hasN g t x.1 x.2 = true
  · obtain ⟨hi1, hi2⟩ := hasN_ix h1
    obtain ⟨n, hin⟩ : ∃ n : Nat, ixOf (fun y : Nod => decide (y.id = x.1)) t = n := ⟨(ixOf (fun y : Nod => decide (y.id = x.1)) t).toNat, by omega⟩
    have hn : n < t.length := by omega
    by_cases h2 : (attN g t x.1 x.2).mode = 3
    · have hB : defB g t x = false := by simp [defB, h2]
      simp only [defO, defE, hB]
      (refine V1 (jO h1 h2) ?_; with_reducible repeat' first | exact trivial | intro h | refine aO ?_ | refine eO ?_ | apply And.intro)
      all_goals first | exact hz | (exfalso; omega)
    by_cases h3 : (attN g t x.1 x.2).mode = 1
    · have ho : ownN g t x = (t[n].parent, t[n].place) := by simp only [ownN, if_pos h3, hin, Int.toNat_natCast]; rw [getD_lt hn]
      by_cases hr : 0 ≤ t[n].parent ∧ t[n].parent < t.length
      · obtain ⟨m, hm⟩ : ∃ m : Nat, t[n].parent = m := ⟨(t[n].parent).toNat, by omega⟩
        have hmt : m < t.length := by omega
        have hrr : 0 ≤ (m : Int) ∧ (m : Int) ≤ t.length - 1 := by omega
        have hgt : t.getD m nodZ = t[m] := getD_lt hmt
        (refine V1 (jO h1 (jO h2 (jO h3 hin))) ?_; with_reducible repeat' first | exact trivial | intro h | refine aO ?_ | refine eO ?_ | apply And.intro)
        all_goals try (exfalso; omega)
        refine callS.eq (w85 _ _ _) ?_
        (refine V1 (jO hm hrr) ?_; with_reducible repeat' first | exact trivial | intro h | refine aO ?_ | refine eO ?_ | apply And.intro)
        all_goals try (exfalso; omega)
        refine callS.eq (w183 g _ hg) ?_
        (refine V1 hm ?_; with_reducible repeat' first | exact trivial | intro h | refine aO ?_ | refine eO ?_ | apply And.intro)
        all_goals try (exfalso; omega)
        refine callS.eq (w186 (fRul g.rules t[m].rule) (t[n].place, x.2) (smRu_f hg _)) ?_
        by_cases h5 : (eqnF (fRul g.rules t[m].rule) (t[n].place, x.2)).isSome = true
        · have hB : defB g t x = true := by simp [defB, h1, h2, ho, hm, h5, hmt, hgt]
          have hE : defE g t x = eqnE (fRul g.rules t[m].rule) (t[n].place, x.2) := by simp only [defE, hB, if_true, ho, hm, Int.toNat_natCast, hgt]
          have hO : defO g t x = m := by simp only [defO, hB, if_true, ho, hm]
          rw [hE, hO, hB]
          (refine V1 (jO h5 (jO hm @XE)) ?_; with_reducible repeat' first | exact trivial | intro h | refine aO ?_ | refine eO ?_ | apply And.intro)
          first | exact .refl | (rw [Ex_eq]; exact .refl)
        · have h5' : (eqnF (fRul g.rules t[m].rule) (t[n].place, x.2)).isSome = false := by simpa using h5
          have hB : defB g t x = false := by simp only [defB, ho, hm, Int.toNat_natCast, hgt, h5', Bool.and_false]
          simp only [defO, defE, hB]
          (refine V1 (jO h5' @XE) ?_; with_reducible repeat' first | exact trivial | intro h | refine aO ?_ | refine eO ?_ | apply And.intro)
          exact hz
      · have hr1 : ¬ (0 ≤ t[n].parent ∧ t[n].parent ≤ t.length - 1) := by omega
        have hB : defB g t x = false := by simp only [defB, ho, decide_eq_false hr, Bool.and_false, Bool.false_and]
        simp only [defO, defE, hB]
        (refine V1 (jO h1 (jO h2 (jO h3 hin))) ?_; with_reducible repeat' first | exact trivial | intro h | refine aO ?_ | refine eO ?_ | apply And.intro)
        all_goals try (exfalso; omega)
        refine callS.eq (w85 _ _ _) ?_
        (refine V1 hr1 ?_; with_reducible repeat' first | exact trivial | intro h | refine aO ?_ | refine eO ?_ | apply And.intro)
        exact hz
    · have ho : ownN g t x = ((n : Int), 0) := by simp only [ownN, if_neg h3, hin]
      by_cases hr : 0 ≤ (n : Int) ∧ (n : Int) < t.length
      · obtain ⟨m, hm⟩ : ∃ m : Nat, (n : Int) = m := ⟨((n : Int)).toNat, by omega⟩
        have hmt : m < t.length := by omega
        have hrr : 0 ≤ (m : Int) ∧ (m : Int) ≤ t.length - 1 := by omega
        have hgt : t.getD m nodZ = t[m] := getD_lt hmt
        (refine V1 (jO h1 (jO h2 (jO h3 hin))) ?_; with_reducible repeat' first | exact trivial | intro h | refine aO ?_ | refine eO ?_ | apply And.intro)
        all_goals try (exfalso; omega)
        refine callS.eq (w85 _ _ _) ?_
        (refine V1 (jO hm hrr) ?_; with_reducible repeat' first | exact trivial | intro h | refine aO ?_ | refine eO ?_ | apply And.intro)
        all_goals try (exfalso; omega)
        refine callS.eq (w183 g _ hg) ?_
        (refine V1 hm ?_; with_reducible repeat' first | exact trivial | intro h | refine aO ?_ | refine eO ?_ | apply And.intro)
        all_goals try (exfalso; omega)
        refine callS.eq (w186 (fRul g.rules t[m].rule) ((0 : Int), x.2) (smRu_f hg _)) ?_
        by_cases h5 : (eqnF (fRul g.rules t[m].rule) ((0 : Int), x.2)).isSome = true
        · have hB : defB g t x = true := by simp [defB, h1, h2, ho, hm, h5, hmt, hgt]
          have hE : defE g t x = eqnE (fRul g.rules t[m].rule) ((0 : Int), x.2) := by simp only [defE, hB, if_true, ho, hm, Int.toNat_natCast, hgt]
          have hO : defO g t x = m := by simp only [defO, hB, if_true, ho, hm]
          rw [hE, hO, hB]
          (refine V1 (jO h5 (jO hm @XE)) ?_; with_reducible repeat' first | exact trivial | intro h | refine aO ?_ | refine eO ?_ | apply And.intro)
          first | exact .refl | (rw [Ex_eq]; exact .refl)
        · have h5' : (eqnF (fRul g.rules t[m].rule) ((0 : Int), x.2)).isSome = false := by simpa using h5
          have hB : defB g t x = false := by simp only [defB, ho, hm, Int.toNat_natCast, hgt, h5', Bool.and_false]
          simp only [defO, defE, hB]
          (refine V1 (jO h5' @XE) ?_; with_reducible repeat' first | exact trivial | intro h | refine aO ?_ | refine eO ?_ | apply And.intro)
          exact hz
      · exfalso; omega
  · have h1' : hasN g t x.1 x.2 = false := by simpa using h1
    have hB : defB g t x = false := by simp [defB, h1']
    simp only [defO, defE, hB]
    (refine V1 h1' ?_; with_reducible repeat' first | exact trivial | intro h | refine aO ?_ | refine eO ?_ | apply And.intro)
    all_goals first | exact hz | (exfalso; omega)
end Go.Proofs.YtbdmpkidcpblaaaGreat
