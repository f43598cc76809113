/- The tied card of the law holds. No condition. -/
import Derived.Test.YtmdfoigdflaliaaGreatDoorPtt7
set_option maxHeartbeats 40000000
set_option maxRecDepth 20000
set_option linter.unusedSimpArgs false
set_option linter.unusedVariables false
namespace Go.Proofs.YtmdfoigdflaliaaGreatDoor
open Go.Gh
open Nat (reduceEqDiff reduceLeDiff reduceAdd reduceLT)
open Int (reduceNe)
theorem x78 (X Y Z : GV) (g : Gram) (r : Rul) (kind : Int) (hg : smGr g) (hr : smRu r) (hr3 : r.right.length ≤ 5) : Pu 78 [GrX g X, RuX r Y Z, I kind] (· = OcS (ofO g r kind)) := by
  refine Pure.bor ?_
  refine ZN mxd i78 rfl (by simp) ?_; refine X0 ?_
  (refine V0 ?_; with_reducible repeat' first|exact trivial|intro h|refine aO ?_|refine eO ?_|apply jO)
  rename_i r0
  refine ploop mxd (ι := { x : Nat × Nat // x.2 ≤ r.right.length + 1 }) (fun x => [(2, I kind), (3, .rop 2 (GrX g X)), (4, .rop 6 (RuX r Y Z)), (7, .own x.1.1 2 0 (ofA g r kind x.1.2).length), (8, I x.1.2)]) (fun x => [(x.1.1, 2, (ofA g r kind x.1.2).map Occ)]) (fun x => r.right.length + 1 - x.1.2) ⟨(r0, 0), by simp⟩ (by simp [E2, ofA]) (by simp [subH, ZW, names, ofA]) ?_
  rintro ⟨⟨q, i⟩, hi⟩ hn
  dsimp only at hi hn ⊢
  rcases nL i (r.right.length + 1) with hlt | hge
  · (refine V0 ?_; with_reducible repeat' first|exact trivial|intro h|refine aO ?_|refine eO ?_|apply jO)
    all_goals try exact oF
    refine callS.eq (x73 X Y Z r i hr) ?_
    (refine V0 ?_; with_reducible repeat' first|exact trivial|intro h|refine aO ?_|refine eO ?_|apply jO)
    refine callS.eq (x72 X Y Z g _ hg) ?_
    have hbl := ofA_len hg r kind i
    have hst : ofA g r kind (i + 1) = ofA g r kind i ++ (((fSym g.syms (YH r i)).atts.filter (ofT kind i)).map fun a => ((i : Int), a.name)) := rfl
    have hsm := smSy_f hg (YH r i)
    unfold smSy at hsm
    generalize fSym g.syms (YH r i) = s at *
    (refine V0 ?_; with_reducible repeat' first|exact trivial|intro h|refine aO ?_|refine eO ?_|apply jO)
    obtain ⟨F, hF⟩ : ∃ F : Nat → List Oc, ∀ k, F k = ofA g r kind i ++ (((s.atts.take k).filter (ofT kind i)).map fun a => ((i : Int), a.name)) := ⟨_, fun _ => rfl⟩
    have hF0 : F 0 = ofA g r kind i := by rw [hF]; simp
    have hFe : F s.atts.length = ofA g r kind (i + 1) := by rw [hF, hst, List.take_length]
    have hFs : ∀ k (hk : k < s.atts.length), F (k + 1) = F k ++ (if ofT kind i s.atts[k] = true then [((i : Int), s.atts[k].name)] else []) := fun k hk => by
      rw [hF, hF, ofP_take (pos := i) s.atts hk, List.append_assoc]
    have hFl : ∀ k, (F k).length ≤ (ofA g r kind i).length + s.atts.length := fun k => by
      have h1 := List.length_filter_le (ofT kind i) (s.atts.take k)
      rw [List.length_take] at h1
      rw [hF, List.length_append, List.length_map]; omega
    clear hF
    refine ploop mxd (ι := { x : Nat × Nat // x.2 ≤ s.atts.length }) (fun x => [(2, I kind), (3, .rop 2 (GrX g X)), (4, .rop 6 (RuX r Y Z)), (7, .own x.1.1 2 0 (F x.1.2).length), (8, I i), (9, .rop 2 (Sy s)), (11, I x.1.2)]) (fun x => [(x.1.1, 2, (F x.1.2).map Occ)]) (fun x => s.atts.length - x.1.2) ⟨(q, 0), by simp⟩ (by simp [E2, hF0]) (by simp [subH, ZW, names, hF0]) ?_
    rintro ⟨⟨q, k⟩, hk⟩ hn
    dsimp only at hk hn ⊢
    have hl1 := hFl k
    have hn' := hn
    rcases nL k s.atts.length with hlt2 | hge2
    · have e := hFs k hlt2
      have hF1 : ofT kind i s.atts[k] = true → F (k + 1) = F k ++ [((i : Int), s.atts[k].name)] := fun h => by rw [e, if_pos h]
      have hF2 : ¬ ofT kind i s.atts[k] = true → F (k + 1) = F k := fun h => by rw [e, if_neg h, List.append_nil]
      clear e
      unfold ofT at hF1 hF2
      simp only [decide_eq_true_eq] at hF1 hF2
      have hcase : (F (k + 1) = F k ∧ (¬ s.atts[k].type = kind ∨ (i = 0 ∧ ¬ s.atts[k].mode = 1) ∨ (¬ i = 0 ∧ ¬ s.atts[k].mode = 2))) ∨ (F (k + 1) = F k ++ [((i : Int), s.atts[k].name)] ∧ s.atts[k].type = kind ∧ s.atts[k].mode = if i = 0 then 1 else 2) := by
        by_cases hp : s.atts[k].type = kind ∧ s.atts[k].mode = if i = 0 then 1 else 2
        · exact .inr ⟨hF1 hp, hp⟩
        · refine .inl ⟨hF2 hp, ?_⟩
          by_cases ht : s.atts[k].type = kind
          · by_cases h0 : i = 0
            · rw [if_pos h0] at hp; exact .inr (.inl ⟨h0, fun h => hp ⟨ht, h⟩⟩)
            · rw [if_neg h0] at hp; exact .inr (.inr ⟨h0, fun h => hp ⟨ht, h⟩⟩)
          · exact .inl ht
      clear hF1 hF2
      rcases hcase with ⟨e, hno⟩ | ⟨e, ht, hm⟩
      · have hT : ((s.atts[k].type = kind) = True ∨ (s.atts[k].type = kind) = False) := by by_cases h : s.atts[k].type = kind <;> simp [h]
        have hM1 : ((s.atts[k].mode = 1) = True ∨ (s.atts[k].mode = 1) = False) := by by_cases h : s.atts[k].mode = 1 <;> simp [h]
        have hM2 : ((s.atts[k].mode = 2) = True ∨ (s.atts[k].mode = 2) = False) := by by_cases h : s.atts[k].mode = 2 <;> simp [h]
        have hI : (((i : Int) = 0) = True ∧ (0 < (i : Int)) = False) ∨ (((i : Int) = 0) = False ∧ (0 < (i : Int)) = True) := by
          by_cases h : i = 0
          · exact .inl ⟨eq_true (by omega), eq_false (by omega)⟩
          · exact .inr ⟨eq_false (by omega), eq_true (by omega)⟩
        rcases hI with ⟨hi0, hi1⟩ | ⟨hi0, hi1⟩ <;> rcases hT with hT | hT <;> rcases hM1 with hM1 | hM1 <;> rcases hM2 with hM2 | hM2
        all_goals first
          | (exfalso; simp only [eq_iff_iff, iff_true, iff_false] at *; omega)
          | ((refine R1 (jO hT (jO hM1 (jO hM2 (jO hi0 (jO hi1 (jO @decide_true @decide_false)))))) ?_; with_reducible repeat' first|exact trivial|intro h|refine aO ?_|refine eO ?_|apply jO)
             all_goals try (exfalso; simp only [eq_iff_iff, iff_true, iff_false] at *; omega)
             refine px ⟨(q, k + 1), by omega⟩ (by simp <;> omega) (by simp [E2, e]) ?_
             show subH _ [(q, 2, (F (k + 1)).map Occ)]
             rw [e]
             exact (by repeat' (first | exact trivial | (refine And.intro (by simp only [Z9, *, if_true, if_false]; try rfl) (And.intro (by simp [ZR, ZP, *]) ?_)))))
      · have el : (F (k + 1)).length = (F k).length + 1 := by rw [e]; simp
        by_cases h0 : i = 0
        · subst h0
          simp only [if_true] at hm
          ((refine R2 (jO @Z9 (jO @Z8 (jO @Z7 (jO hn' (jO ht (jO hm (jO @decide_true (jO @decide_false (jO @List.length_append.{0} (jO @List.length_singleton.{0} (jO @List.length_map.{0,0} (jO @List.length_take.{0} @ZM)))))))))))) ?_; with_reducible repeat' first|exact trivial|intro h|refine aO ?_|refine eO ?_|apply jO); (repeat' (have h := Z0 h; simp only [Z1, ZY, Z3, ZZ, and_true, true_and] at h; (refine R2 (jO @Z9 (jO @Z8 (jO @Z7 (jO hn' (jO ht (jO hm (jO @decide_true (jO @decide_false (jO @List.length_append.{0} (jO @List.length_singleton.{0} (jO @List.length_map.{0,0} (jO @List.length_take.{0} (jO @ZM h))))))))))))) ?_; with_reducible repeat' first|exact trivial|intro h|refine aO ?_|refine eO ?_|apply jO))))
          all_goals try exact oF
          rename_i q2 _ _ q3 _
          refine px ⟨(q3, k + 1), by omega⟩ (by simp <;> omega) (by simp [E2, el]) ?_
          show subH _ [(q3, 2, (F (k + 1)).map Occ)]
          rw [e, List.map_append, tL (by simp)]
          exact (by repeat' (first | exact trivial | (refine And.intro (by simp only [Z9, *, if_true, if_false]; try rfl) (And.intro (by simp [ZR, ZP, *]) ?_))))
        · rw [if_neg h0] at hm
          have hi0 : ((i : Int) = 0) = False := eq_false (by omega)
          have hi1 : (0 < (i : Int)) = True := eq_true (by omega)
          ((refine R2 (jO @Z9 (jO @Z8 (jO @Z7 (jO hn' (jO ht (jO hm (jO hi0 (jO hi1 (jO @decide_true (jO @decide_false (jO @List.length_append.{0} (jO @List.length_singleton.{0} (jO @List.length_map.{0,0} (jO @List.length_take.{0} @ZM)))))))))))))) ?_; with_reducible repeat' first|exact trivial|intro h|refine aO ?_|refine eO ?_|apply jO); (repeat' (have h := Z0 h; simp only [Z1, ZY, Z3, ZZ, and_true, true_and] at h; (refine R2 (jO @Z9 (jO @Z8 (jO @Z7 (jO hn' (jO ht (jO hm (jO hi0 (jO hi1 (jO @decide_true (jO @decide_false (jO @List.length_append.{0} (jO @List.length_singleton.{0} (jO @List.length_map.{0,0} (jO @List.length_take.{0} (jO @ZM h))))))))))))))) ?_; with_reducible repeat' first|exact trivial|intro h|refine aO ?_|refine eO ?_|apply jO))))
          all_goals try exact oF
          rename_i q2 _ _ q3 _
          refine px ⟨(q3, k + 1), by omega⟩ (by simp <;> omega) (by simp [E2, el]) ?_
          show subH _ [(q3, 2, (F (k + 1)).map Occ)]
          rw [e, List.map_append, tL (by simp)]
          exact (by repeat' (first | exact trivial | (refine And.intro (by simp only [Z9, *, if_true, if_false]; try rfl) (And.intro (by simp [ZR, ZP, *]) ?_))))
    · obtain rfl : k = s.atts.length := by omega
      rw [hFe]
      (refine V0 ?_; with_reducible repeat' first|exact trivial|intro h|refine aO ?_|refine eO ?_|apply jO)
      all_goals try exact oF
      exact px ⟨(q, i + 1), by omega⟩ (by simp <;> omega) (by simp [E2]) (by repeat' (first | exact trivial | (refine And.intro (by simp only [Z9, *, if_true, if_false]; try rfl) (And.intro (by simp [ZR, ZP, *]) ?_))))
  · obtain rfl : i = r.right.length + 1 := by omega
    (refine V0 ?_; with_reducible repeat' first|exact trivial|intro h|refine aO ?_|refine eO ?_|apply jO)
    all_goals try exact oF
    exact Bor.allM (fun _ => rfl) ZX rfl
end Go.Proofs.YtmdfoigdflaliaaGreatDoor
