/- The law FnExactApplyEdits returns true whatever the input, and the input reads behind the call as before. No condition. -/
import Derived.Test.YthnchomedekciaaGreatEes10
set_option maxHeartbeats 40000000
namespace Go.Proofs.YthnchomedekciaaGreat
open Go.Gh
open Nat (reduceEqDiff reduceLeDiff reduceAdd reduceLT)
open Int (reduceNe)
set_option maxRecDepth 20000
set_option linter.unusedSimpArgs false
set_option linter.unusedVariables false
theorem w245 (g : Gram) (r : Rul) (hg : smGr g) (hr : smRu r) : Pu 245 [Gr g, Ru r] (· = B (!unkR g r)) := by
 have hl := hr.1
 refine gstart mxd i245 rfl (by simp) ?_; refine X0 ?_
 (refine V0 ?_; with_reducible repeat' first|exact trivial|intro h|refine aO ?_|refine eO ?_|apply jO)
 refine wloop mxd (ι := { i : Nat // i ≤ r.right.length + 1 ∧ ∀ j, j < i → hSym g.syms (symAt r (j : Nat)) = true }) (fun i => [(2, .rop 2 (Gr g)), (3, .rop 6 (Ru r)), (5, I i.1)]) (fun _ => []) (fun i => r.right.length + 1 - i.1) ⟨0, by simp⟩ (by simp [E2]) rfl ?_
 rintro ⟨i, hi, hn⟩
 rcases Nat.lt_or_ge i (r.right.length + 1) with hlt | hge
 ·(refine V0 ?_; with_reducible repeat' first|exact trivial|intro h|refine aO ?_|refine eO ?_|apply jO)
  all_goals try (exfalso; omega)
  refine callS.eq (w196 r i hr) ?_
  (refine V0 ?_; with_reducible repeat' first|exact trivial|intro h|refine aO ?_|refine eO ?_|apply jO)
  refine callS.eq (w104 g _ hg) ?_
  rcases (Bool.eq_false_or_eq_true (hSym g.syms (symAt r i))).symm with hv | hv
  ·rw [unkR_no hlt hv]
   (refine V1 hv ?_; with_reducible repeat' first|exact trivial|intro h|refine aO ?_|refine eO ?_|apply jO)
  ·(refine V1 hv ?_; with_reducible repeat' first|exact trivial|intro h|refine aO ?_|refine eO ?_|apply jO)
   exact nx ⟨i + 1, by omega, fun j hj => by
    rcases Nat.lt_succ_iff_lt_or_eq.1 hj with e | e
    ·exact hn j e
    ·subst e; exact hv⟩ (by simp <;> omega) (by simp [E2]) rfl
 ·obtain rfl : i = r.right.length + 1 := by omega
  rw [unkR_ok hn]
  (refine V0 ?_; with_reducible repeat' first|exact trivial|intro h|refine aO ?_|refine eO ?_|apply jO)
  all_goals try (exfalso; omega)
theorem w208 (g : Gram) (r : Rul) (hg : smGr g) (hr : smRu r) : Pu 208 [Gr g, Ru r] (· = B (unkR g r)) := by
 have hl := hr.1
 refine gstart mxd i208 rfl (by simp) ?_; refine X0 ?_
 (refine V0 ?_; with_reducible repeat' first|exact trivial|intro h|refine aO ?_|refine eO ?_|apply jO)
 all_goals try (exfalso; omega)
 refine wloop mxd (ι := { i : Nat // i ≤ r.right.length + 1 ∧ ∀ j, j < i → hSym g.syms (symAt r (j : Nat)) = true }) (fun i => [(2, .rop 2 (Gr g)), (3, .rop 6 (Ru r)), (11, I ((r.right.length : Int) + 1)), (12, I i.1)]) (fun _ => []) (fun i => r.right.length + 1 - i.1) ⟨0, by simp⟩ (by simp [E2]) rfl ?_
 rintro ⟨i, hi, hn⟩
 rcases Nat.lt_or_ge i (r.right.length + 1) with hlt | hge
 ·(refine V0 ?_; with_reducible repeat' first|exact trivial|intro h|refine aO ?_|refine eO ?_|apply jO)
  all_goals try (exfalso; omega)
  refine callS.eq (w259 r i hr) ?_
  (refine V0 ?_; with_reducible repeat' first|exact trivial|intro h|refine aO ?_|refine eO ?_|apply jO)
  refine callS.eq (w123 g _ hg) ?_
  rcases (Bool.eq_false_or_eq_true (hSym g.syms (symAt r i))).symm with hv | hv
  ·rw [unkR_no hlt hv]
   (refine V1 hv ?_; with_reducible repeat' first|exact trivial|intro h|refine aO ?_|refine eO ?_|apply jO)
  ·(refine V1 hv ?_; with_reducible repeat' first|exact trivial|intro h|refine aO ?_|refine eO ?_|apply jO)
   exact nx ⟨i + 1, by omega, fun j hj => by
    rcases Nat.lt_succ_iff_lt_or_eq.1 hj with e | e
    ·exact hn j e
    ·subst e; exact hv⟩ (by simp <;> omega) (by simp [E2]) rfl
 ·obtain rfl : i = r.right.length + 1 := by omega
  rw [unkR_ok hn]
  (refine V0 ?_; with_reducible repeat' first|exact trivial|intro h|refine aO ?_|refine eO ?_|apply jO)
  all_goals try (exfalso; omega)
theorem w292 (g : Gram) (r : Rul) (hg : smGr g) (hr : smRu r) (hr3 : r.right.length ≤ 3) : Pu 292 [Gr g, Ru r] (· = OcS (reqO g r)) := by
 refine Pure.bor ?_
 refine gstart mxd i292 rfl (by simp) ?_; refine X0 ?_
 (refine V0 ?_; with_reducible repeat' first|exact trivial|intro h|refine aO ?_|refine eO ?_|apply jO)
 rename_i r0
 refine ploop mxd (ι := { x : Nat × Nat // x.2 ≤ r.right.length + 1 }) (fun x => [(2, .rop 2 (Gr g)), (3, .rop 6 (Ru r)), (5, .own x.1.1 2 0 (reqA g r x.1.2).length), (6, I x.1.2)]) (fun x => [(x.1.1, 2, (reqA g r x.1.2).map Occ)]) (fun x => r.right.length + 1 - x.1.2) ⟨(r0, 0), by simp⟩ (by simp [E2, reqA]) (by simp [subH, hget, names, reqA]) ?_
 rintro ⟨⟨q, i⟩, hi⟩ hn
 dsimp only at hi hn ⊢
 rcases Nat.lt_or_ge i (r.right.length + 1) with hlt | hge
 ·(refine V0 ?_; with_reducible repeat' first|exact trivial|intro h|refine aO ?_|refine eO ?_|apply jO)
  all_goals try (exfalso; omega)
  refine callS.eq (w196 r i hr) ?_
  (refine V0 ?_; with_reducible repeat' first|exact trivial|intro h|refine aO ?_|refine eO ?_|apply jO)
  refine callS.eq (w104 g _ hg) ?_
  have hbl := reqA_len hg r i
  have hst : reqA g r (i + 1) = reqA g r i ++ ((((fSym g.syms (symAt r i)).atts.filter fun a => decide (a.mode = if i = 0 then 2 else 1)).map fun a => ((i : Int), a.name))) := rfl
  have hsm := smSy_f hg (symAt r i)
  unfold smSy at hsm
  generalize fSym g.syms (symAt r i) = s at *
  by_cases h0 : i = 0
  ·have hi1 : ((i : Int) = 0) = True := eq_true (by omega)
   rw [if_pos h0] at hst
   (refine V1 (jO hi1 @decide_true) ?_; with_reducible repeat' first|exact trivial|intro h|refine aO ?_|refine eO ?_|apply jO)
   obtain ⟨F, hF⟩ : ∃ F : Nat → List Oc, ∀ k, F k = reqA g r i ++ (((s.atts.take k).filter fun a => decide (a.mode = 2)).map fun a => ((i : Int), a.name)) := ⟨_, fun _ => rfl⟩
   have hF0 : F 0 = reqA g r i := by rw [hF]; simp
   have hFe : F s.atts.length = reqA g r (i + 1) := by rw [hF, hst, List.take_length]
   have hFs : ∀ k (hk : k < s.atts.length), F (k + 1) = F k ++ (if s.atts[k].mode = 2 then [((i : Int), s.atts[k].name)] else []) := fun k hk => by
    rw [hF, hF, reqP_take (g := g) (r := r) (pos := i) (m := 2) (by simp [h0]) s.atts hk, List.append_assoc]
   have hFl : ∀ k, (F k).length ≤ (reqA g r i).length + s.atts.length := fun k => by
    have h1 := List.length_filter_le (fun a : Att => decide (a.mode = 2)) (s.atts.take k)
    rw [List.length_take] at h1
    rw [hF, List.length_append, List.length_map]; omega
   clear hF
   refine ploop mxd (ι := { x : Nat × Nat // x.2 ≤ s.atts.length }) (fun x => [(2, .rop 2 (Gr g)), (3, .rop 6 (Ru r)), (5, .own x.1.1 2 0 (F x.1.2).length), (6, I i), (7, .rop 2 (Sy s)), (9, I 2), (10, I x.1.2)]) (fun x => [(x.1.1, 2, (F x.1.2).map Occ)]) (fun x => s.atts.length - x.1.2) ⟨(q, 0), by simp⟩ (by simp [E2, hF0]) (by simp [subH, hget, names, hF0]) ?_
   rintro ⟨⟨q, k⟩, hk⟩ hn
   dsimp only at hk hn ⊢
   have hl1 := hFl k
   rcases Nat.lt_or_ge k s.atts.length with hlt2 | hge2
   ·have e := hFs k hlt2
    rcases Decidable.em (s.atts[k].mode = 2) with hm | hm
    ·rw [if_pos hm] at e
     have el : (F (k + 1)).length = (F k).length + 1 := by rw [e]; simp
     (refine V1 (jO hm (jO @List.length_append.{0} (jO @List.length_singleton.{0} (jO @List.length_map.{0,0} (jO @List.length_take.{0} @maxLv))))) ?_; with_reducible repeat' first|exact trivial|intro h|refine aO ?_|refine eO ?_|apply jO)
     all_goals try (exfalso; omega)
     rename_i q2 _ q3
     refine px ⟨(q3, k + 1), by omega⟩ (by simp <;> omega) (by simp [E2, el]) ?_
     show subH _ [(q3, 2, (F (k + 1)).map Occ)]
     rw [e, List.map_append, List.take_of_length_le (by simp)]
     exact (by repeat' (first | exact trivial | (refine And.intro (by simp only [hget_c, *, if_true, if_false]; try rfl) (And.intro (by simp [names_cons, names_nil, *]) ?_))))
    ·rw [if_neg hm, List.append_nil] at e
     (refine V1 hm ?_; with_reducible repeat' first|exact trivial|intro h|refine aO ?_|refine eO ?_|apply jO)
     all_goals try (exfalso; omega)
     refine px ⟨(q, k + 1), by omega⟩ (by simp <;> omega) (by simp [E2, e]) ?_
     show subH _ [(q, 2, (F (k + 1)).map Occ)]
     rw [e]
     exact (by repeat' (first | exact trivial | (refine And.intro (by simp only [hget_c, *, if_true, if_false]; try rfl) (And.intro (by simp [names_cons, names_nil, *]) ?_))))
   ·obtain rfl : k = s.atts.length := by omega
    rw [hFe]
    (refine V0 ?_; with_reducible repeat' first|exact trivial|intro h|refine aO ?_|refine eO ?_|apply jO)
    all_goals try (exfalso; omega)
    exact px ⟨(q, i + 1), by omega⟩ (by simp <;> omega) (by simp [E2]) (by repeat' (first | exact trivial | (refine And.intro (by simp only [hget_c, *, if_true, if_false]; try rfl) (And.intro (by simp [names_cons, names_nil, *]) ?_))))
  ·have hi1 : ((i : Int) = 0) = False := eq_false (by omega)
   rw [if_neg h0] at hst
   (refine V1 (jO hi1 @decide_false) ?_; with_reducible repeat' first|exact trivial|intro h|refine aO ?_|refine eO ?_|apply jO)
   obtain ⟨F, hF⟩ : ∃ F : Nat → List Oc, ∀ k, F k = reqA g r i ++ (((s.atts.take k).filter fun a => decide (a.mode = 1)).map fun a => ((i : Int), a.name)) := ⟨_, fun _ => rfl⟩
   have hF0 : F 0 = reqA g r i := by rw [hF]; simp
   have hFe : F s.atts.length = reqA g r (i + 1) := by rw [hF, hst, List.take_length]
   have hFs : ∀ k (hk : k < s.atts.length), F (k + 1) = F k ++ (if s.atts[k].mode = 1 then [((i : Int), s.atts[k].name)] else []) := fun k hk => by
    rw [hF, hF, reqP_take (g := g) (r := r) (pos := i) (m := 1) (by simp [h0]) s.atts hk, List.append_assoc]
   have hFl : ∀ k, (F k).length ≤ (reqA g r i).length + s.atts.length := fun k => by
    have h1 := List.length_filter_le (fun a : Att => decide (a.mode = 1)) (s.atts.take k)
    rw [List.length_take] at h1
    rw [hF, List.length_append, List.length_map]; omega
   clear hF
   refine ploop mxd (ι := { x : Nat × Nat // x.2 ≤ s.atts.length }) (fun x => [(2, .rop 2 (Gr g)), (3, .rop 6 (Ru r)), (5, .own x.1.1 2 0 (F x.1.2).length), (6, I i), (7, .rop 2 (Sy s)), (9, I 1), (10, I x.1.2)]) (fun x => [(x.1.1, 2, (F x.1.2).map Occ)]) (fun x => s.atts.length - x.1.2) ⟨(q, 0), by simp⟩ (by simp [E2, hF0]) (by simp [subH, hget, names, hF0]) ?_
   rintro ⟨⟨q, k⟩, hk⟩ hn
   dsimp only at hk hn ⊢
   have hl1 := hFl k
   rcases Nat.lt_or_ge k s.atts.length with hlt2 | hge2
   ·have e := hFs k hlt2
    rcases Decidable.em (s.atts[k].mode = 1) with hm | hm
    ·rw [if_pos hm] at e
     have el : (F (k + 1)).length = (F k).length + 1 := by rw [e]; simp
     (refine V1 (jO hm (jO @List.length_append.{0} (jO @List.length_singleton.{0} (jO @List.length_map.{0,0} (jO @List.length_take.{0} @maxLv))))) ?_; with_reducible repeat' first|exact trivial|intro h|refine aO ?_|refine eO ?_|apply jO)
     all_goals try (exfalso; omega)
     rename_i q2 _ q3
     refine px ⟨(q3, k + 1), by omega⟩ (by simp <;> omega) (by simp [E2, el]) ?_
     show subH _ [(q3, 2, (F (k + 1)).map Occ)]
     rw [e, List.map_append, List.take_of_length_le (by simp)]
     exact (by repeat' (first | exact trivial | (refine And.intro (by simp only [hget_c, *, if_true, if_false]; try rfl) (And.intro (by simp [names_cons, names_nil, *]) ?_))))
    ·rw [if_neg hm, List.append_nil] at e
     (refine V1 hm ?_; with_reducible repeat' first|exact trivial|intro h|refine aO ?_|refine eO ?_|apply jO)
     all_goals try (exfalso; omega)
     refine px ⟨(q, k + 1), by omega⟩ (by simp <;> omega) (by simp [E2, e]) ?_
     show subH _ [(q, 2, (F (k + 1)).map Occ)]
     rw [e]
     exact (by repeat' (first | exact trivial | (refine And.intro (by simp only [hget_c, *, if_true, if_false]; try rfl) (And.intro (by simp [names_cons, names_nil, *]) ?_))))
   ·obtain rfl : k = s.atts.length := by omega
    rw [hFe]
    (refine V0 ?_; with_reducible repeat' first|exact trivial|intro h|refine aO ?_|refine eO ?_|apply jO)
    all_goals try (exfalso; omega)
    exact px ⟨(q, i + 1), by omega⟩ (by simp <;> omega) (by simp [E2]) (by repeat' (first | exact trivial | (refine And.intro (by simp only [hget_c, *, if_true, if_false]; try rfl) (And.intro (by simp [names_cons, names_nil, *]) ?_))))
 ·obtain rfl : i = r.right.length + 1 := by omega
  (refine V0 ?_; with_reducible repeat' first|exact trivial|intro h|refine aO ?_|refine eO ?_|apply jO)
  all_goals try (exfalso; omega)
  exact bor_OcS hget_new rfl
theorem w261 (g : Gram) (r : Rul) (hg : smGr g) (hr : smRu r) (hr3 : r.right.length ≤ 3) : Pu 261 [Gr g, Ru r] (· = OcS (reqO g r)) := by
 refine Pure.bor ?_
 refine gstart mxd i261 rfl (by simp) ?_; refine X0 ?_
 (refine V0 ?_; with_reducible repeat' first|exact trivial|intro h|refine aO ?_|refine eO ?_|apply jO)
 all_goals try (exfalso; omega)
 rename_i r0
 refine ploop mxd (ι := { x : Nat × Nat // x.2 ≤ r.right.length + 1 }) (fun x => [(2, .rop 2 (Gr g)), (3, .rop 6 (Ru r)), (5, .own x.1.1 2 0 (reqA g r x.1.2).length), (16, I ((r.right.length : Int) + 1)), (17, I x.1.2)]) (fun x => [(x.1.1, 2, (reqA g r x.1.2).map Occ)]) (fun x => r.right.length + 1 - x.1.2) ⟨(r0, 0), by simp⟩ (by simp [E2, reqA]) (by simp [subH, hget, names, reqA]) ?_
 rintro ⟨⟨q, i⟩, hi⟩ hn
 dsimp only at hi hn ⊢
 rcases Nat.lt_or_ge i (r.right.length + 1) with hlt | hge
 ·have hbl := reqA_len hg r i
  have hst : reqA g r (i + 1) = reqA g r i ++ ((((fSym g.syms (symAt r i)).atts.filter fun a => decide (a.mode = if i = 0 then 2 else 1)).map fun a => ((i : Int), a.name))) := rfl
  have hsm := smSy_f hg (symAt r i)
  unfold smSy at hsm
  by_cases h0 : i = 0
  ·have hi1 : ((i : Int) = 0) = True := eq_true (by omega)
   rw [if_pos h0] at hst
   (refine V1 (jO hi1 @decide_true) ?_; with_reducible repeat' first|exact trivial|intro h|refine aO ?_|refine eO ?_|apply jO)
   all_goals try (exfalso; omega)
   refine callS.eq (w259 r i hr) ?_
   (refine V0 ?_; with_reducible repeat' first|exact trivial|intro h|refine aO ?_|refine eO ?_|apply jO)
   refine callS.eq (w123 g _ hg) ?_
   generalize fSym g.syms (symAt r i) = s at *
   (refine V0 ?_; with_reducible repeat' first|exact trivial|intro h|refine aO ?_|refine eO ?_|apply jO)
   obtain ⟨F, hF⟩ : ∃ F : Nat → List Oc, ∀ k, F k = reqA g r i ++ (((s.atts.take k).filter fun a => decide (a.mode = 2)).map fun a => ((i : Int), a.name)) := ⟨_, fun _ => rfl⟩
   have hF0 : F 0 = reqA g r i := by rw [hF]; simp
   have hFe : F s.atts.length = reqA g r (i + 1) := by rw [hF, hst, List.take_length]
   have hFs : ∀ k (hk : k < s.atts.length), F (k + 1) = F k ++ (if s.atts[k].mode = 2 then [((i : Int), s.atts[k].name)] else []) := fun k hk => by
    rw [hF, hF, reqP_take (g := g) (r := r) (pos := i) (m := 2) (by simp [h0]) s.atts hk, List.append_assoc]
   have hFl : ∀ k, (F k).length ≤ (reqA g r i).length + s.atts.length := fun k => by
    have h1 := List.length_filter_le (fun a : Att => decide (a.mode = 2)) (s.atts.take k)
    rw [List.length_take] at h1
    rw [hF, List.length_append, List.length_map]; omega
   clear hF
   refine ploop mxd (ι := { x : Nat × Nat // x.2 ≤ s.atts.length }) (fun x => [(2, .rop 2 (Gr g)), (3, .rop 6 (Ru r)), (5, .own x.1.1 2 0 (F x.1.2).length), (6, I i), (7, I 2), (16, I ((r.right.length : Int) + 1)), (17, I i), (31, AtS s.atts), (32, I s.atts.length), (33, I x.1.2)]) (fun x => [(x.1.1, 2, (F x.1.2).map Occ)]) (fun x => s.atts.length - x.1.2) ⟨(q, 0), by simp⟩ (by simp [E2, hF0]) (by simp [subH, hget, names, hF0]) ?_
   rintro ⟨⟨q, k⟩, hk⟩ hn
   dsimp only at hk hn ⊢
   have hl1 := hFl k
   rcases Nat.lt_or_ge k s.atts.length with hlt2 | hge2
   ·have e := hFs k hlt2
    rcases Decidable.em (s.atts[k].mode = 2) with hm | hm
    ·rw [if_pos hm] at e
     have el : (F (k + 1)).length = (F k).length + 1 := by rw [e]; simp
     (refine V1 (jO hm (jO @List.length_append.{0} (jO @List.length_singleton.{0} (jO @List.length_map.{0,0} (jO @List.length_take.{0} @maxLv))))) ?_; with_reducible repeat' first|exact trivial|intro h|refine aO ?_|refine eO ?_|apply jO)
     all_goals try (exfalso; omega)
     rename_i q2 _ q3
     refine px ⟨(q3, k + 1), by omega⟩ (by simp <;> omega) (by simp [E2, el]) ?_
     show subH _ [(q3, 2, (F (k + 1)).map Occ)]
     rw [e, List.map_append, List.take_of_length_le (by simp)]
     exact (by repeat' (first | exact trivial | (refine And.intro (by simp only [hget_c, *, if_true, if_false]; try rfl) (And.intro (by simp [names_cons, names_nil, *]) ?_))))
    ·rw [if_neg hm, List.append_nil] at e
     (refine V1 hm ?_; with_reducible repeat' first|exact trivial|intro h|refine aO ?_|refine eO ?_|apply jO)
     all_goals try (exfalso; omega)
     refine px ⟨(q, k + 1), by omega⟩ (by simp <;> omega) (by simp [E2, e]) ?_
     show subH _ [(q, 2, (F (k + 1)).map Occ)]
     rw [e]
     exact (by repeat' (first | exact trivial | (refine And.intro (by simp only [hget_c, *, if_true, if_false]; try rfl) (And.intro (by simp [names_cons, names_nil, *]) ?_))))
   ·obtain rfl : k = s.atts.length := by omega
    rw [hFe]
    (refine V0 ?_; with_reducible repeat' first|exact trivial|intro h|refine aO ?_|refine eO ?_|apply jO)
    all_goals try (exfalso; omega)
    exact px ⟨(q, i + 1), by omega⟩ (by simp <;> omega) (by simp [E2]) (by repeat' (first | exact trivial | (refine And.intro (by simp only [hget_c, *, if_true, if_false]; try rfl) (And.intro (by simp [names_cons, names_nil, *]) ?_))))
  ·have hi1 : ((i : Int) = 0) = False := eq_false (by omega)
   rw [if_neg h0] at hst
   (refine V1 (jO hi1 @decide_false) ?_; with_reducible repeat' first|exact trivial|intro h|refine aO ?_|refine eO ?_|apply jO)
   all_goals try (exfalso; omega)
   refine callS.eq (w259 r i hr) ?_
   (refine V0 ?_; with_reducible repeat' first|exact trivial|intro h|refine aO ?_|refine eO ?_|apply jO)
   refine callS.eq (w123 g _ hg) ?_
   generalize fSym g.syms (symAt r i) = s at *
   (refine V0 ?_; with_reducible repeat' first|exact trivial|intro h|refine aO ?_|refine eO ?_|apply jO)
   obtain ⟨F, hF⟩ : ∃ F : Nat → List Oc, ∀ k, F k = reqA g r i ++ (((s.atts.take k).filter fun a => decide (a.mode = 1)).map fun a => ((i : Int), a.name)) := ⟨_, fun _ => rfl⟩
   have hF0 : F 0 = reqA g r i := by rw [hF]; simp
   have hFe : F s.atts.length = reqA g r (i + 1) := by rw [hF, hst, List.take_length]
   have hFs : ∀ k (hk : k < s.atts.length), F (k + 1) = F k ++ (if s.atts[k].mode = 1 then [((i : Int), s.atts[k].name)] else []) := fun k hk => by
    rw [hF, hF, reqP_take (g := g) (r := r) (pos := i) (m := 1) (by simp [h0]) s.atts hk, List.append_assoc]
   have hFl : ∀ k, (F k).length ≤ (reqA g r i).length + s.atts.length := fun k => by
    have h1 := List.length_filter_le (fun a : Att => decide (a.mode = 1)) (s.atts.take k)
    rw [List.length_take] at h1
    rw [hF, List.length_append, List.length_map]; omega
   clear hF
   refine ploop mxd (ι := { x : Nat × Nat // x.2 ≤ s.atts.length }) (fun x => [(2, .rop 2 (Gr g)), (3, .rop 6 (Ru r)), (5, .own x.1.1 2 0 (F x.1.2).length), (6, I i), (7, I 1), (16, I ((r.right.length : Int) + 1)), (17, I i), (31, AtS s.atts), (32, I s.atts.length), (33, I x.1.2)]) (fun x => [(x.1.1, 2, (F x.1.2).map Occ)]) (fun x => s.atts.length - x.1.2) ⟨(q, 0), by simp⟩ (by simp [E2, hF0]) (by simp [subH, hget, names, hF0]) ?_
   rintro ⟨⟨q, k⟩, hk⟩ hn
   dsimp only at hk hn ⊢
   have hl1 := hFl k
   rcases Nat.lt_or_ge k s.atts.length with hlt2 | hge2
   ·have e := hFs k hlt2
    rcases Decidable.em (s.atts[k].mode = 1) with hm | hm
    ·rw [if_pos hm] at e
     have el : (F (k + 1)).length = (F k).length + 1 := by rw [e]; simp
     (refine V1 (jO hm (jO @List.length_append.{0} (jO @List.length_singleton.{0} (jO @List.length_map.{0,0} (jO @List.length_take.{0} @maxLv))))) ?_; with_reducible repeat' first|exact trivial|intro h|refine aO ?_|refine eO ?_|apply jO)
     all_goals try (exfalso; omega)
     rename_i q2 _ q3
     refine px ⟨(q3, k + 1), by omega⟩ (by simp <;> omega) (by simp [E2, el]) ?_
     show subH _ [(q3, 2, (F (k + 1)).map Occ)]
     rw [e, List.map_append, List.take_of_length_le (by simp)]
     exact (by repeat' (first | exact trivial | (refine And.intro (by simp only [hget_c, *, if_true, if_false]; try rfl) (And.intro (by simp [names_cons, names_nil, *]) ?_))))
    ·rw [if_neg hm, List.append_nil] at e
     (refine V1 hm ?_; with_reducible repeat' first|exact trivial|intro h|refine aO ?_|refine eO ?_|apply jO)
     all_goals try (exfalso; omega)
     refine px ⟨(q, k + 1), by omega⟩ (by simp <;> omega) (by simp [E2, e]) ?_
     show subH _ [(q, 2, (F (k + 1)).map Occ)]
     rw [e]
     exact (by repeat' (first | exact trivial | (refine And.intro (by simp only [hget_c, *, if_true, if_false]; try rfl) (And.intro (by simp [names_cons, names_nil, *]) ?_))))
   ·obtain rfl : k = s.atts.length := by omega
    rw [hFe]
    (refine V0 ?_; with_reducible repeat' first|exact trivial|intro h|refine aO ?_|refine eO ?_|apply jO)
    all_goals try (exfalso; omega)
    exact px ⟨(q, i + 1), by omega⟩ (by simp <;> omega) (by simp [E2]) (by repeat' (first | exact trivial | (refine And.intro (by simp only [hget_c, *, if_true, if_false]; try rfl) (And.intro (by simp [names_cons, names_nil, *]) ?_))))
 ·obtain rfl : i = r.right.length + 1 := by omega
  (refine V0 ?_; with_reducible repeat' first|exact trivial|intro h|refine aO ?_|refine eO ?_|apply jO)
  all_goals try (exfalso; omega)
  exact bor_OcS hget_new rfl
theorem w262 (r : Rul) (o : Oc) (hr : smRu r) : Pu 262 [Occ o, .rop 6 (Ru r)] (· = B (!(eqnF r o).isSome)) := by
 refine gstart mxd i262 rfl (by simp) ?_; refine X0 ?_
 (refine V0 ?_; with_reducible repeat' first|exact trivial|intro h|refine aO ?_|refine eO ?_|apply jO)
 refine callS.eq (w263 r.eqs 264 [.rop 2 (Occ o)] (fun q => decide (q.pos = o.1 ∧ q.name = o.2)) fun x _ => w264 x o) ?_
 rw [← eqnF_any]
 (refine V0 ?_; with_reducible repeat' first|exact trivial|intro h|refine aO ?_|refine eO ?_|apply jO)
theorem w209 (g : Gram) (r : Rul) (hg : smGr g) (hr : smRu r) (hr3 : r.right.length ≤ 3) : Pu 209 [Gr g, Ru r] (· = B (misR g r)) := by
 refine gstart mxd i209 rfl (by simp) ?_; refine X0 ?_
 (refine V0 ?_; with_reducible repeat' first|exact trivial|intro h|refine aO ?_|refine eO ?_|apply jO)
 refine callS.eq (w261 g r hg hr hr3) ?_
 (refine V0 ?_; with_reducible repeat' first|exact trivial|intro h|refine aO ?_|refine eO ?_|apply jO)
 refine callS.eq (w260 (reqO g r) 262 [.rop 6 (Ru r)] (fun o => !(eqnF r o).isSome) fun x _ => w262 r x hr) ?_
 (refine V0 ?_; with_reducible repeat' first|exact trivial|intro h|refine aO ?_|refine eO ?_|apply jO)
 rfl
theorem w246 (g : Gram) (r : Rul) (hg : smGr g) (hr : smRu r) (hr3 : r.right.length ≤ 3) : Pu 246 [Gr g, Ru r] (· = B (misR g r)) := by
 have hbl := reqA_len hg r (r.right.length + 1)
 have hrq : reqO g r = reqA g r (r.right.length + 1) := rfl
 rw [← hrq] at hbl
 have hmr : misR g r = (reqO g r).any fun o => !(eqnF r o).isSome := rfl
 rw [hmr]
 refine gstart mxd i246 rfl (by simp) ?_; refine X0 ?_
 (refine V0 ?_; with_reducible repeat' first|exact trivial|intro h|refine aO ?_|refine eO ?_|apply jO)
 refine callS.eq (w292 g r hg hr hr3) ?_
 generalize reqO g r = L at *
 (refine V0 ?_; with_reducible repeat' first|exact trivial|intro h|refine aO ?_|refine eO ?_|apply jO)
 refine wloop mxd (ι := { i : Nat // i ≤ L.length ∧ ∀ o ∈ L.take i, (!(eqnF r o).isSome) = false }) (fun i => [(3, .rop 6 (Ru r)), (5, OcS L), (6, I i.1)]) (fun _ => []) (fun i => L.length - i.1) ⟨0, by simp⟩ (by simp [E2]) rfl ?_
 rintro ⟨i, hi, hn⟩
 rcases Nat.lt_or_ge i L.length with hlt | hge
 ·(refine V0 ?_; with_reducible repeat' first|exact trivial|intro h|refine aO ?_|refine eO ?_|apply jO)
  all_goals try (exfalso; omega)
  refine callS.eq (w165 r L[i] hr) ?_
  rcases (Bool.eq_false_or_eq_true (eqnF r L[i]).isSome).symm with hv | hv
  ·rw [any_yes (p := fun o => !(eqnF r o).isSome) hlt (by rw [hv]; rfl)]
   (refine V1 (jO hv @XE) ?_; with_reducible repeat' first|exact trivial|intro h|refine aO ?_|refine eO ?_|apply jO)
  ·(refine V1 (jO hv @XE) ?_; with_reducible repeat' first|exact trivial|intro h|refine aO ?_|refine eO ?_|apply jO)
   exact nx ⟨i + 1, by omega, takeP_step (p := fun o => !(eqnF r o).isSome) hlt (by rw [hv]; rfl) hn⟩ (by simp <;> omega) (by simp [E2]) rfl
 ·obtain rfl : i = L.length := by omega
  rw [List.take_length] at hn
  rw [any_no (p := fun o => !(eqnF r o).isSome) hn]
  (refine V0 ?_; with_reducible repeat' first|exact trivial|intro h|refine aO ?_|refine eO ?_|apply jO)
  all_goals try (exfalso; omega)
theorem w302 (L : List Oc) (y : Oc) : Pu 302 [OcS L, Occ y] (· = I (ixI L y)) := by
 refine GCalls.lenA fun hlen => ?_
 have hlen := hlen.1.1
 simp only [List.length_map, maxL] at hlen
 refine gstart mxd i302 rfl (by simp) ?_; refine X0 ?_
 (refine V0 ?_; with_reducible repeat' first|exact trivial|intro h|refine aO ?_|refine eO ?_|apply jO)
 refine wloop mxd (ι := { i : Nat // i ≤ L.length ∧ ∀ a ∈ L.take i, decide (a = y) = false }) (fun i => [(0, OcS L), (3, .rop 2 (Occ y)), (7, I L.length), (8, I i.1)]) (fun _ => []) (fun i => L.length - i.1) ⟨0, by simp⟩ (by simp [E2]) rfl ?_
 rintro ⟨i, hi, hn⟩
 rcases Nat.lt_or_ge i L.length with hlt | hge
 ·by_cases he : L[i] = y
  ·have he1 : y.1 = L[i].1 := by rw [he]
   have he2 : y.2 = L[i].2 := by rw [he]
   have e : ixI L y = i := ixOf_hit hlt (by simp [he]) hn
   rw [e]
   (refine V1 (jO he1 he2) ?_; with_reducible repeat' first|exact trivial|intro h|refine aO ?_|refine eO ?_|apply jO)
   all_goals first | rfl | (exfalso; omega)
  ·(refine V0 ?_; with_reducible repeat' first|exact trivial|intro h|refine aO ?_|refine eO ?_|apply jO)
   all_goals first
    | (exfalso; exact he (Prod.ext (Eq.symm (by assumption)) (Eq.symm (by assumption))))
    | (exfalso; omega)
    | exact nx ⟨i + 1, by omega, take_step hlt (by simp [he]) hn⟩ (by simp <;> omega) (by simp [E2]) rfl
 ·obtain rfl : i = L.length := by omega
  rw [List.take_length] at hn
  have e : ixI L y = -1 := ixOf_none hn
  rw [e]
  (refine V0 ?_; with_reducible repeat' first|exact trivial|intro h|refine aO ?_|refine eO ?_|apply jO)
  all_goals first | rfl | (exfalso; omega)
theorem w265 (L : List Oc) (y : Oc) : Pu 265 [OcS L, Occ y] (· = B (hasO L y)) := by
 have e : hasO L y = decide (0 ≤ ixI L y) := (any_ix (fun z => decide (z = y)) L).symm
 rw [e]
 refine gstart mxd i265 rfl (by simp) ?_; refine X0 ?_
 (refine V0 ?_; with_reducible repeat' first|exact trivial|intro h|refine aO ?_|refine eO ?_|apply jO)
 refine callS.eq (w302 L y) ?_
 (refine V0 ?_; with_reducible repeat' first|exact trivial|intro h|refine aO ?_|refine eO ?_|apply jO)
theorem w293 (L : List Oc) (y : Oc) : Pu 293 [OcS L, Occ y] (· = B (hasO L y)) := by
 refine GCalls.lenA fun hlen => ?_
 have hlen := hlen.1.1
 simp only [List.length_map, maxL] at hlen
 refine gstart mxd i293 rfl (by simp) ?_; refine X0 ?_
 (refine V0 ?_; with_reducible repeat' first|exact trivial|intro h|refine aO ?_|refine eO ?_|apply jO)
 refine wloop mxd (ι := { i : Nat // i ≤ L.length ∧ ∀ a ∈ L.take i, decide (a = y) = false }) (fun i => [(0, OcS L), (3, .rop 2 (Occ y)), (5, I i.1)]) (fun _ => []) (fun i => L.length - i.1) ⟨0, by simp⟩ (by simp [E2]) rfl ?_
 rintro ⟨i, hi, hn⟩
 rcases Nat.lt_or_ge i L.length with hlt | hge
 ·by_cases he : L[i] = y
  ·have he1 : L[i].1 = y.1 := by rw [he]
   have he2 : L[i].2 = y.2 := by rw [he]
   rw [hasO_hit hlt he]
   (refine V1 (jO he1 he2) ?_; with_reducible repeat' first|exact trivial|intro h|refine aO ?_|refine eO ?_|apply jO)
   all_goals first | rfl | (exfalso; omega)
  ·(refine V0 ?_; with_reducible repeat' first|exact trivial|intro h|refine aO ?_|refine eO ?_|apply jO)
   all_goals first
    | (exfalso; exact he (Prod.ext (by assumption) (by assumption)))
    | (exfalso; omega)
    | exact nx ⟨i + 1, by omega, take_step hlt (by simp [he]) hn⟩ (by simp <;> omega) (by simp [E2]) rfl
 ·obtain rfl : i = L.length := by omega
  rw [List.take_length] at hn
  rw [hasO_none hn]
  (refine V0 ?_; with_reducible repeat' first|exact trivial|intro h|refine aO ?_|refine eO ?_|apply jO)
  all_goals first | rfl | (exfalso; omega)
theorem w210 (g : Gram) (r : Rul) (hg : smGr g) (hr : smRu r) (hr3 : r.right.length ≤ 3) : Pu 210 [Gr g, Ru r] (· = B (extR g r)) := by
 have hel := hr.2.1
 have hno (i : Nat) (h : i < r.eqs.length) := extR_no (g := g) (r := r) (i := i) h
 have hok := extR_ok (g := g) (r := r)
 refine gstart mxd i210 rfl (by simp) ?_; refine X0 ?_
 (refine V1 @XE ?_; with_reducible repeat' first|exact trivial|intro h|refine aO ?_|refine eO ?_|apply jO)
 refine callS.eq (w261 g r hg hr hr3) ?_
 generalize reqO g r = L at *
 (refine V1 @XE ?_; with_reducible repeat' first|exact trivial|intro h|refine aO ?_|refine eO ?_|apply jO)
 refine wloop mxd (ι := { i : Nat // i ≤ r.eqs.length ∧ ∀ j (hj : j < r.eqs.length), j < i → hasO L (atQ r.eqs[j]) = true ∧ hasO ((r.eqs.take j).map atQ) (atQ r.eqs[j]) = false }) (fun i => [(3, .rop 6 (Ru r)), (5, OcS L), (12, QnS r.eqs), (13, I r.eqs.length), (14, I i.1)]) (fun _ => []) (fun i => r.eqs.length - i.1) ⟨0, by simp⟩ (by simp [E2]) rfl ?_
 rintro ⟨i, hi, hn⟩
 rcases Nat.lt_or_ge i r.eqs.length with hlt | hge
 ·(refine V1 @XE ?_; with_reducible repeat' first|exact trivial|intro h|refine aO ?_|refine eO ?_|apply jO)
  all_goals try (exfalso; omega)
  refine callS.eq (w265 L (atQ r.eqs[i])) ?_
  rcases (Bool.eq_false_or_eq_true (hasO L (atQ r.eqs[i]))).symm with hv | hv
  ·rw [hno i hlt (.inl hv)]
   (refine V1 (jO hv @XE) ?_; with_reducible repeat' first|exact trivial|intro h|refine aO ?_|refine eO ?_|apply jO)
  ·(refine V1 (jO hv @XE) ?_; with_reducible repeat' first|exact trivial|intro h|refine aO ?_|refine eO ?_|apply jO)
   all_goals try (exfalso; omega)
   rw [show List.drop (Int.toNat 0) (List.take i (List.map Qn r.eqs)) = (r.eqs.take i).map Qn from by simp [List.map_take]]
   refine callS.eq (w263 (r.eqs.take i) 266 [.rop 9 (Qn r.eqs[i])] (fun q => decide (q.pos = r.eqs[i].pos ∧ q.name = r.eqs[i].name)) fun x _ => w266 x _) ?_
   have e : ((r.eqs.take i).any fun q => decide (q.pos = r.eqs[i].pos ∧ q.name = r.eqs[i].name)) = hasO ((r.eqs.take i).map atQ) (atQ r.eqs[i]) := (hasO_map (r.eqs.take i) (atQ r.eqs[i])).symm
   rw [e]
   rcases (Bool.eq_false_or_eq_true (hasO ((r.eqs.take i).map atQ) (atQ r.eqs[i]))).symm with hw | hw
   ·(refine V1 hw ?_; with_reducible repeat' first|exact trivial|intro h|refine aO ?_|refine eO ?_|apply jO)
    exact nx ⟨i + 1, by omega, fun j hj hji => by
     rcases Nat.lt_succ_iff_lt_or_eq.1 hji with e | e
     ·exact hn j hj e
     ·subst e; exact ⟨hv, hw⟩⟩ (by simp <;> omega) (by simp [E2]) rfl
   ·rw [hno i hlt (.inr hw)]
    (refine V1 hw ?_; with_reducible repeat' first|exact trivial|intro h|refine aO ?_|refine eO ?_|apply jO)
 ·obtain rfl : i = r.eqs.length := by omega
  rw [hok fun j hj => hn j hj hj]
  (refine V0 ?_; with_reducible repeat' first|exact trivial|intro h|refine aO ?_|refine eO ?_|apply jO)
  all_goals try (exfalso; omega)
theorem w247 (g : Gram) (r : Rul) (hg : smGr g) (hr : smRu r) (hr3 : r.right.length ≤ 3) : Pu 247 [Gr g, Ru r] (· = B (extR g r)) := by
 have hel := hr.2.1
 have hno (i : Nat) (h : i < r.eqs.length) := extR_no (g := g) (r := r) (i := i) h
 have hok := extR_ok (g := g) (r := r)
 refine Pure.bor ?_
 refine gstart mxd i247 rfl (by simp) ?_; refine X0 ?_
 (refine V1 @XE ?_; with_reducible repeat' first|exact trivial|intro h|refine aO ?_|refine eO ?_|apply jO)
 refine callS.eq (w292 g r hg hr hr3) ?_
 generalize reqO g r = L at *
 (refine V1 @XE ?_; with_reducible repeat' first|exact trivial|intro h|refine aO ?_|refine eO ?_|apply jO)
 rename_i r0
 refine ploop mxd (ι := { x : Nat × Nat // x.2 ≤ r.eqs.length ∧ ∀ j (hj : j < r.eqs.length), j < x.2 → hasO L (atQ r.eqs[j]) = true ∧ hasO ((r.eqs.take j).map atQ) (atQ r.eqs[j]) = false }) (fun x => [(3, .rop 6 (Ru r)), (5, OcS L), (6, .own x.1.1 2 0 x.1.2), (7, I x.1.2)]) (fun x => [(x.1.1, 2, ((r.eqs.take x.1.2).map atQ).map Occ)]) (fun x => r.eqs.length - x.1.2) ⟨(r0, 0), by simp⟩ (by simp [E2]) (by simp [subH, hget, names]) ?_
 rintro ⟨⟨q, i⟩, hi, hn⟩ -
 dsimp only at hi hn ⊢
 rcases Nat.lt_or_ge i r.eqs.length with hlt | hge
 ·(refine V1 @XE ?_; with_reducible repeat' first|exact trivial|intro h|refine aO ?_|refine eO ?_|apply jO)
  all_goals try (exfalso; omega)
  refine callS.eq (w293 L (atQ r.eqs[i])) ?_
  rcases (Bool.eq_false_or_eq_true (hasO L (atQ r.eqs[i]))).symm with hv | hv
  ·rw [hno i hlt (.inl hv)]
   (refine V1 (jO hv @XE) ?_; with_reducible repeat' first|exact trivial|intro h|refine aO ?_|refine eO ?_|apply jO)
   exact .refl
  ·(refine V1 (jO hv @XE) ?_; with_reducible repeat' first|exact trivial|intro h|refine aO ?_|refine eO ?_|apply jO)
   all_goals try (exfalso; omega)
   refine callS.borA (w293 ((r.eqs.take i).map atQ) (atQ r.eqs[i])) (.cons (bor_OcS hget_new (by simp <;> omega)) (.cons .refl .nil)) rfl ?_
   rcases (Bool.eq_false_or_eq_true (hasO ((r.eqs.take i).map atQ) (atQ r.eqs[i]))).symm with hw | hw
   ·(refine V1 (jO hw (jO @XE (jO @List.length_append.{0} (jO @List.length_singleton.{0} (jO @List.length_map.{0,0} (jO @List.length_take.{0} @maxLv)))))) ?_; with_reducible repeat' first|exact trivial|intro h|refine aO ?_|refine eO ?_|apply jO)
    all_goals try (exfalso; omega)
    rename_i q2 _ q3
    have e := takeApp2 Occ atQ r.eqs i hlt
    simp only [atQ] at e
    rw [e]
    exact px ⟨(q3, i + 1), by omega, fun j hj hji => by
     rcases Nat.lt_succ_iff_lt_or_eq.1 hji with e | e
     ·exact hn j hj e
     ·subst e; exact ⟨hv, hw⟩⟩ (by simp <;> omega) (by simp [E2]) (by repeat' (first | exact trivial | (refine And.intro (by simp only [hget_c, *, if_true, if_false]; try rfl) (And.intro (by simp [names_cons, names_nil, *]) ?_))))
   ·rw [hno i hlt (.inr hw)]
    (refine V1 hw ?_; with_reducible repeat' first|exact trivial|intro h|refine aO ?_|refine eO ?_|apply jO)
    exact .refl
 ·obtain rfl : i = r.eqs.length := by omega
  rw [hok fun j hj => hn j hj hj]
  (refine V0 ?_; with_reducible repeat' first|exact trivial|intro h|refine aO ?_|refine eO ?_|apply jO)
  all_goals first | (exfalso; omega) | exact .refl
theorem w177 (r : Rul) (hr : smRu r) : Pu 177 [Ru r] (· = ExS (expR r)) := by
 obtain ⟨m1, m2, m3, m4, m5⟩ := hr
 refine Pure.bor ?_
 refine gstart mxd i177 rfl (by simp) ?_; refine X0 ?_
 (refine V1 @XE ?_; with_reducible repeat' first|exact trivial|intro h|refine aO ?_|refine eO ?_|apply jO)
 rename_i r0
 refine ploop mxd (ι := { x : Nat × Nat // x.2 ≤ r.eqs.length }) (fun x => [(1, .rop 6 (Ru r)), (3, .own x.1.1 7 0 x.1.2), (10, QnS r.eqs), (11, I r.eqs.length), (12, I x.1.2)]) (fun x => [(x.1.1, 7, ((r.eqs.take x.1.2).map (·.expr)).map Ex)]) (fun x => r.eqs.length - x.1.2) ⟨(r0, 0), by simp⟩ (by simp [E2]) (by simp [subH, hget, names]) ?_
 rintro ⟨⟨q, i⟩, hi⟩ -
 dsimp only at hi ⊢
 rcases Nat.lt_or_ge i r.eqs.length with hlt | hge
 ·(refine V1 (jO @XE (jO @List.length_append.{0} (jO @List.length_singleton.{0} (jO @List.length_map.{0,0} (jO @List.length_take.{0} @maxLv))))) ?_; with_reducible repeat' first|exact trivial|intro h|refine aO ?_|refine eO ?_|apply jO)
  all_goals try (exfalso; omega)
  rename_i q2 _ q3
  rw [takeApp2 Ex (·.expr) r.eqs i hlt]
  exact px ⟨(q3, i + 1), by omega⟩ (by simp <;> omega) (by simp [E2]) (by repeat' (first | exact trivial | (refine And.intro (by simp only [hget_c, *, if_true, if_false]; try rfl) (And.intro (by simp [names_cons, names_nil, *]) ?_))))
 ·obtain rfl : i = r.eqs.length := by omega
  rw [List.take_length]
  (refine V1 @XE ?_; with_reducible repeat' first|exact trivial|intro h|refine aO ?_|refine eO ?_|apply jO)
  all_goals try (exfalso; omega)
  refine ploop mxd (ι := { x : Nat × Nat // x.2 ≤ r.cons.length }) (fun x => [(3, .own x.1.1 7 0 (r.eqs.length + 2 * x.1.2)), (23, CoS r.cons), (24, I r.cons.length), (25, I x.1.2)]) (fun x => [(x.1.1, 7, (r.eqs.map (·.expr) ++ cfl (r.cons.take x.1.2)).map Ex)]) (fun x => r.cons.length - x.1.2) ⟨(q, 0), by simp⟩ (by simp [E2]) (by simp [subH, hget, names, cfl]) ?_
  rintro ⟨⟨q, i⟩, hi⟩ -
  dsimp only at hi ⊢
  rcases Nat.lt_or_ge i r.cons.length with hlt | hge
  ·have hcl := cfl_len (r.cons.take i)
   rw [List.length_take, Nat.min_eq_left (by omega)] at hcl
   (refine V1 (jO @XE (jO hcl (jO @List.length_append.{0} (jO @List.length_cons.{0} (jO @List.length_nil.{0} (jO @List.length_singleton.{0} (jO @List.length_map.{0,0} (jO @List.length_take.{0} @maxLv)))))))) ?_; with_reducible repeat' first|exact trivial|intro h|refine aO ?_|refine eO ?_|apply jO)
   all_goals try (exfalso; omega)
   rename_i q2
   rw [soT_E2]
   (refine V1 (jO h (jO @XE (jO hcl (jO @List.length_append.{0} (jO @List.length_cons.{0} (jO @List.length_nil.{0} (jO @List.length_singleton.{0} (jO @List.length_map.{0,0} (jO @List.length_take.{0} @maxLv))))))))) ?_; with_reducible repeat' first|exact trivial|intro h|refine aO ?_|refine eO ?_|apply jO)
   all_goals try (exfalso; omega)
   rename_i q3
   rw [show List.take (r.eqs.length + 2 * i) (List.map Ex (List.map (fun x => x.expr) r.eqs ++ cfl (r.cons.take i))) = List.map Ex (List.map (fun x => x.expr) r.eqs ++ cfl (r.cons.take i)) from List.take_of_length_le (by simp [hcl])]
   refine px ⟨(q3, i + 1), by omega⟩ (by simp <;> omega) (by simp [E2] <;> omega) ?_
   rw [cfl_step hlt, ← List.append_assoc, List.map_append (l₁ := _ ++ _)]
   exact (by repeat' (first | exact trivial | (refine And.intro (by simp only [hget_c, *, if_true, if_false]; try rfl) (And.intro (by simp [names_cons, names_nil, *]) ?_))))
  ·obtain rfl : i = r.cons.length := by omega
   rw [List.take_length]
   (refine V1 @XE ?_; with_reducible repeat' first|exact trivial|intro h|refine aO ?_|refine eO ?_|apply jO)
   all_goals try (exfalso; omega)
   exact bor_ExS hget_new (by rw [expR_eq]; simp [cfl_len])
theorem w268 (g : Gram) (r : Rul) (o : Oc) (hg : smGr g) (hr : smRu r) : Pu 268 [Occ o, .rop 2 (Gr g), .rop 6 (Ru r)] (· = B (!mayU g r o)) := by
 refine gstart mxd i268 rfl (by simp) ?_; refine X0 ?_
 (refine V0 ?_; with_reducible repeat' first|exact trivial|intro h|refine aO ?_|refine eO ?_|apply jO)
 refine callS.eq (w269 g r o hg hr) ?_
 (refine V0 ?_; with_reducible repeat' first|exact trivial|intro h|refine aO ?_|refine eO ?_|apply jO)
theorem w267 (g : Gram) (r : Rul) (e : Exp) (hg : smGr g) (hr : smRu r) (hw : wEx e ≤ 1048576) : Pu 267 [Ex e, .rop 2 (Gr g), .rop 6 (Ru r)] (· = B (useB g r e)) := by
 refine gstart mxd i267 rfl (by simp) ?_; refine X0 ?_
 (refine V1 @XE ?_; with_reducible repeat' first|exact trivial|intro h|refine aO ?_|refine eO ?_|apply jO)
 refine callS.eq (q226 e hw) ?_
 (refine V1 @XE ?_; with_reducible repeat' first|exact trivial|intro h|refine aO ?_|refine eO ?_|apply jO)
 refine callS.eq (w260 (usE e []) 268 [.rop 2 (Gr g), .rop 6 (Ru r)] (fun o => !mayU g r o) fun x _ => w268 g r x hg hr) ?_
 (refine V0 ?_; with_reducible repeat' first|exact trivial|intro h|refine aO ?_|refine eO ?_|apply jO)
 rfl
theorem w211 (g : Gram) (r : Rul) (hg : smGr g) (hr : smRu r) : Pu 211 [Gr g, Ru r] (· = B (misU g r)) := by
 refine gstart mxd i211 rfl (by simp) ?_; refine X0 ?_
 (refine V0 ?_; with_reducible repeat' first|exact trivial|intro h|refine aO ?_|refine eO ?_|apply jO)
 refine callS.eq (w177 r hr) ?_
 (refine V0 ?_; with_reducible repeat' first|exact trivial|intro h|refine aO ?_|refine eO ?_|apply jO)
 refine callS.eq (w176 (expR r) 267 [.rop 2 (Gr g), .rop 6 (Ru r)] (useB g r) fun x hx => w267 g r x hg hr (expR_sm hr x hx)) ?_
 (refine V0 ?_; with_reducible repeat' first|exact trivial|intro h|refine aO ?_|refine eO ?_|apply jO)
 rfl
theorem w294 (g : Gram) (r : Rul) (e : Exp) (hg : smGr g) (hr : smRu r) (hw : wEx e ≤ 1048576) : Pu 294 [Gr g, Ru r, Ex e] (· = B (!useB g r e)) := by
 have hul := usE_sm hw
 have hub : useB g r e = (usE e []).any fun o => !mayU g r o := rfl
 rw [hub]
 refine gstart mxd i294 rfl (by simp) ?_; refine X0 ?_
 (refine V1 @XE ?_; with_reducible repeat' first|exact trivial|intro h|refine aO ?_|refine eO ?_|apply jO)
 refine callS.eq (w219 e hw) ?_
 generalize usE e [] = L at *
 (refine V1 @XE ?_; with_reducible repeat' first|exact trivial|intro h|refine aO ?_|refine eO ?_|apply jO)
 refine wloop mxd (ι := { i : Nat // i ≤ L.length ∧ ∀ o ∈ L.take i, (!mayU g r o) = false }) (fun i => [(3, .rop 2 (Gr g)), (4, .rop 6 (Ru r)), (7, OcS L), (8, I i.1)]) (fun _ => []) (fun i => L.length - i.1) ⟨0, by simp⟩ (by simp [E2]) rfl ?_
 rintro ⟨i, hi, hn⟩
 rcases Nat.lt_or_ge i L.length with hlt | hge
 ·(refine V0 ?_; with_reducible repeat' first|exact trivial|intro h|refine aO ?_|refine eO ?_|apply jO)
  all_goals try (exfalso; omega)
  refine callS.eq (w318 g r L[i] hg hr) ?_
  rcases (Bool.eq_false_or_eq_true (mayU g r L[i])).symm with hv | hv
  ·rw [any_yes (p := fun o => !mayU g r o) hlt (by rw [hv]; rfl)]
   (refine V1 hv ?_; with_reducible repeat' first|exact trivial|intro h|refine aO ?_|refine eO ?_|apply jO)
  ·(refine V1 hv ?_; with_reducible repeat' first|exact trivial|intro h|refine aO ?_|refine eO ?_|apply jO)
   exact nx ⟨i + 1, by omega, takeP_step (p := fun o => !mayU g r o) hlt (by rw [hv]; rfl) hn⟩ (by simp <;> omega) (by simp [E2]) rfl
 ·obtain rfl : i = L.length := by omega
  rw [List.take_length] at hn
  rw [any_no (p := fun o => !mayU g r o) hn]
  (refine V0 ?_; with_reducible repeat' first|exact trivial|intro h|refine aO ?_|refine eO ?_|apply jO)
  all_goals try (exfalso; omega)
theorem w248 (g : Gram) (r : Rul) (hg : smGr g) (hr : smRu r) : Pu 248 [Gr g, Ru r] (· = B (misU g r)) := by
 obtain ⟨m1, m2, m3, m4, m5⟩ := id hr
 refine gstart mxd i248 rfl (by simp) ?_; refine X0 ?_
 (refine V0 ?_; with_reducible repeat' first|exact trivial|intro h|refine aO ?_|refine eO ?_|apply jO)
 refine wloop mxd (ι := { i : Nat // i ≤ r.eqs.length ∧ ∀ q ∈ r.eqs.take i, useB g r q.expr = false }) (fun i => [(2, .rop 2 (Gr g)), (3, .rop 6 (Ru r)), (5, I i.1)]) (fun _ => []) (fun i => r.eqs.length - i.1) ⟨0, by simp⟩ (by simp [E2]) rfl ?_
 rintro ⟨i, hi, hn⟩
 rcases Nat.lt_or_ge i r.eqs.length with hlt | hge
 ·(refine V1 @XE ?_; with_reducible repeat' first|exact trivial|intro h|refine aO ?_|refine eO ?_|apply jO)
  all_goals try (exfalso; omega)
  refine callS.eq (w294 g r r.eqs[i].expr hg hr (m4 _ (List.getElem_mem hlt))) ?_
  rcases (Bool.eq_false_or_eq_true (useB g r r.eqs[i].expr)).symm with hv | hv
  ·(refine V1 hv ?_; with_reducible repeat' first|exact trivial|intro h|refine aO ?_|refine eO ?_|apply jO)
   exact nx ⟨i + 1, by omega, takeP_step (p := fun q : Eqn => useB g r q.expr) hlt hv hn⟩ (by simp <;> omega) (by simp [E2]) rfl
  ·rw [misU_e hlt hv]
   (refine V1 hv ?_; with_reducible repeat' first|exact trivial|intro h|refine aO ?_|refine eO ?_|apply jO)
 ·obtain rfl : i = r.eqs.length := by omega
  rw [List.take_length] at hn
  (refine V0 ?_; with_reducible repeat' first|exact trivial|intro h|refine aO ?_|refine eO ?_|apply jO)
  all_goals try (exfalso; omega)
  refine wloop mxd (ι := { i : Nat // i ≤ r.cons.length ∧ ∀ c ∈ r.cons.take i, (useB g r c.goal || useB g r c.value) = false }) (fun i => [(2, .rop 2 (Gr g)), (3, .rop 6 (Ru r)), (6, I i.1)]) (fun _ => []) (fun i => r.cons.length - i.1) ⟨0, by simp⟩ (by simp [E2]) rfl ?_
  rintro ⟨i, hi, hn2⟩
  rcases Nat.lt_or_ge i r.cons.length with hlt | hge
  ·have hc := m5 _ (List.getElem_mem hlt)
   (refine V1 @XE ?_; with_reducible repeat' first|exact trivial|intro h|refine aO ?_|refine eO ?_|apply jO)
   all_goals try (exfalso; omega)
   refine callS.eq (w294 g r r.cons[i].goal hg hr hc.1) ?_
   rcases (Bool.eq_false_or_eq_true (useB g r r.cons[i].goal)).symm with hv | hv
   ·(refine V1 (jO hv @XE) ?_; with_reducible repeat' first|exact trivial|intro h|refine aO ?_|refine eO ?_|apply jO)
    refine callS.eq (w294 g r r.cons[i].value hg hr hc.2) ?_
    rcases (Bool.eq_false_or_eq_true (useB g r r.cons[i].value)).symm with hw | hw
    ·(refine V1 hw ?_; with_reducible repeat' first|exact trivial|intro h|refine aO ?_|refine eO ?_|apply jO)
     exact nx ⟨i + 1, by omega, takeP_step (p := fun c : Con => useB g r c.goal || useB g r c.value) hlt (by rw [hv, hw]; rfl) hn2⟩ (by simp <;> omega) (by simp [E2]) rfl
    ·rw [misU_c hlt (.inr hw)]
     (refine V1 hw ?_; with_reducible repeat' first|exact trivial|intro h|refine aO ?_|refine eO ?_|apply jO)
   ·rw [misU_c hlt (.inl hv)]
    (refine V1 hv ?_; with_reducible repeat' first|exact trivial|intro h|refine aO ?_|refine eO ?_|apply jO)
  ·obtain rfl : i = r.cons.length := by omega
   rw [List.take_length] at hn2
   rw [misU_n hn hn2]
   (refine V0 ?_; with_reducible repeat' first|exact trivial|intro h|refine aO ?_|refine eO ?_|apply jO)
   all_goals try (exfalso; omega)
theorem w193 (g : Gram) (r : Rul) (c : Nat) (hg : smGr g) (hr : smRu r) (hr3 : r.right.length ≤ 3) : Pu 193 [Gr g, Ru r, I c] (· = B (brk g r c)) := by
 simp only [brk]
 refine gstart mxd i193 rfl (by simp) ?_; refine X0 ?_
 by_cases e3 : c = 3
 ·have i3 : ((c : Int) = 3) = True := eq_true (by omega)
  rw [if_pos e3]
  (refine V1 (jO i3 @decide_true) ?_; with_reducible repeat' first|exact trivial|intro h|refine aO ?_|refine eO ?_|apply jO)
  refine callS.eq (w245 g r hg hr) ?_
  (refine V0 ?_; with_reducible repeat' first|exact trivial|intro h|refine aO ?_|refine eO ?_|apply jO)
  all_goals simp
 ·have i3 : ((c : Int) = 3) = False := eq_false (by omega)
  rw [if_neg e3]
  by_cases e4 : c = 4
  ·have i4 : ((c : Int) = 4) = True := eq_true (by omega)
   rw [if_pos e4]
   (refine V1 (jO i3 (jO i4 (jO @decide_true @decide_false))) ?_; with_reducible repeat' first|exact trivial|intro h|refine aO ?_|refine eO ?_|apply jO)
   refine callS.eq (w246 g r hg hr hr3) ?_
   (refine V0 ?_; with_reducible repeat' first|exact trivial|intro h|refine aO ?_|refine eO ?_|apply jO)
  ·have i4 : ((c : Int) = 4) = False := eq_false (by omega)
   rw [if_neg e4]
   by_cases e5 : c = 5
   ·have i5 : ((c : Int) = 5) = True := eq_true (by omega)
    rw [if_pos e5]
    (refine V1 (jO i3 (jO i4 (jO i5 (jO @decide_true @decide_false)))) ?_; with_reducible repeat' first|exact trivial|intro h|refine aO ?_|refine eO ?_|apply jO)
    refine callS.eq (w247 g r hg hr hr3) ?_
    (refine V0 ?_; with_reducible repeat' first|exact trivial|intro h|refine aO ?_|refine eO ?_|apply jO)
   ·have i5 : ((c : Int) = 5) = False := eq_false (by omega)
    rw [if_neg e5]
    (refine V1 (jO i3 (jO i4 (jO i5 @decide_false))) ?_; with_reducible repeat' first|exact trivial|intro h|refine aO ?_|refine eO ?_|apply jO)
    refine callS.eq (w248 g r hg hr) ?_
    (refine V0 ?_; with_reducible repeat' first|exact trivial|intro h|refine aO ?_|refine eO ?_|apply jO)
theorem w145 (g : Gram) (hs : smGr g) (hg : okGr g) : Pu 145 [Gr g] (· = .tup [I (shpC g).1, I (shpC g).2]) := by
 obtain ⟨m1, m2, m3, m4⟩ := id hs
 refine gstart mxd i145 rfl (by simp) ?_; refine X0 ?_
 (refine V0 ?_; with_reducible repeat' first|exact trivial|intro h|refine aO ?_|refine eO ?_|apply jO)
 by_cases h1 : (1 ≤ g.syms.length ∧ g.syms.length ≤ 4) ∧ (1 ≤ g.rules.length ∧ g.rules.length ≤ 8)
 ·have a1 : ((1 : Int) ≤ g.syms.length ∧ (g.syms.length : Int) ≤ 4) := by omega
  have a2 : ((1 : Int) ≤ g.rules.length ∧ (g.rules.length : Int) ≤ 8) := by omega
  (repeat' (first | (with_reducible refine callS.eq (w48 _ _ _) ?_) | simp (maxSteps := 9^7) only [↓ S2, S2, vIte, ↓reduceIte, reduceNe, reduceEqDiff, reduceCtorEq, reduceLeDiff, reduceAdd, reduceLT, a1, a2, and_self, decide_true] | simp only [brGen] | simp +contextual (disch := omega) only [Z2] | with_reducible first | intro h | refine And.intro (by omega) ?_ | refine exP (by omega) ?_ | apply And.intro))
  refine callS.eq (w206 g hs hg) ?_
  by_cases h2 : 0 ≤ sfI g
  ·rw [shpC_b2 h1 h2]
   (refine V1 (jO h2 (jO @ge_iff_le.{0} @decide_true)) ?_; with_reducible repeat' first|exact trivial|intro h|refine aO ?_|refine eO ?_|apply jO)
  ·have h2' : ¬ sfI g ≥ 0 := h2
   have h00 : 0 < g.syms.length := by omega
   have e0 : g.syms.getD 0 symZ = g.syms[0] := getD_lt h00
   (refine V1 (jO h2 (jO h2' (jO @ge_iff_le.{0} @decide_false))) ?_; with_reducible repeat' first|exact trivial|intro h|refine aO ?_|refine eO ?_|apply jO)
   all_goals try (exfalso; omega)
   refine callS.eq (w181 g.syms[0].atts 207 [] (fun a => decide (a.mode = 1)) fun x _ => w207 x) ?_
   rcases (Bool.eq_false_or_eq_true (g.syms[0].atts.any fun a => decide (a.mode = 1))).symm with hv | hv
   ·have hG : shpG g := ⟨h1, h2, by rw [e0]; exact hv⟩
    (refine V1 hv ?_; with_reducible repeat' first|exact trivial|intro h|refine aO ?_|refine eO ?_|apply jO)
    refine wloop mxd (ι := { c : Nat // 3 ≤ c ∧ c ≤ 7 ∧ ∀ d, 3 ≤ d → d < c → brF g d = -1 }) (fun c => [(1, .rop 2 (Gr g)), (5, I c.1)]) (fun _ => []) (fun c => 7 - c.1) ⟨3, by omega, by omega, fun d h3 h4 => by omega⟩ (by simp [E2]) rfl ?_
    rintro ⟨c, hc3, hc7, hcn⟩
    rcases Nat.lt_or_ge c 7 with hclt | hcge
    ·(refine V0 ?_; with_reducible repeat' first|exact trivial|intro h|refine aO ?_|refine eO ?_|apply jO)
     all_goals try (exfalso; omega)
     refine wloop mxd (ι := { i : Nat // i ≤ g.rules.length ∧ ∀ j (hj : j < g.rules.length), j < i → brk g g.rules[j] c = false }) (fun i => [(1, .rop 2 (Gr g)), (5, I c), (37, RuS g.rules), (38, I g.rules.length), (39, I i.1)]) (fun _ => []) (fun i => g.rules.length - i.1) ⟨0, by simp⟩ (by simp [E2]) rfl ?_
     rintro ⟨i, hi, hn⟩
     rcases Nat.lt_or_ge i g.rules.length with hlt | hge
     ·have hr := m4 _ (List.getElem_mem hlt)
      have hr3 := rulV_len (rul_ok h2 hlt)
      have hnx (hb : brk g g.rules[i] c = false) : ∀ j (hj : j < g.rules.length), j < i + 1 → brk g g.rules[j] c = false := fun j hj hji => by
       rcases Nat.lt_succ_iff_lt_or_eq.1 hji with e | e
       ·exact hn j hj e
       ·subst e; exact hb
      have hit (hb : brk g g.rules[i] c = true) : shpC g = ((c : Int), (i : Int)) := shpC_hit hG hc3 (by omega) hcn (brF_hit hlt hb hn)
      rcases (by omega : c = 3 ∨ c = 4 ∨ c = 5 ∨ c = 6) with e | e | e | e
      ·have i3 : ((c : Int) = 3) = True := eq_true (by omega)
       have i4 : ((c : Int) = 4) = False := eq_false (by omega)
       have i5 : ((c : Int) = 5) = False := eq_false (by omega)
       have hbk : brk g g.rules[i] c = unkR g g.rules[i] := by subst e; rfl
       rw [hbk] at hnx hit
       (refine V1 (jO i3 (jO i4 (jO i5 (jO @decide_true @decide_false)))) ?_; with_reducible repeat' first|exact trivial|intro h|refine aO ?_|refine eO ?_|apply jO)
       all_goals try (exfalso; omega)
       refine callS.eq (w208 g g.rules[i] hs hr) ?_
       rcases (Bool.eq_false_or_eq_true (unkR g g.rules[i])).symm with hw | hw
       ·(refine V1 hw ?_; with_reducible repeat' first|exact trivial|intro h|refine aO ?_|refine eO ?_|apply jO)
        exact nx ⟨i + 1, by omega, hnx hw⟩ (by simp <;> omega) (by simp [E2]) rfl
       ·rw [hit hw]
        (refine V1 hw ?_; with_reducible repeat' first|exact trivial|intro h|refine aO ?_|refine eO ?_|apply jO)
      ·have i3 : ((c : Int) = 3) = False := eq_false (by omega)
       have i4 : ((c : Int) = 4) = True := eq_true (by omega)
       have i5 : ((c : Int) = 5) = False := eq_false (by omega)
       have hbk : brk g g.rules[i] c = misR g g.rules[i] := by subst e; rfl
       rw [hbk] at hnx hit
       (refine V1 (jO i3 (jO i4 (jO i5 (jO @decide_true @decide_false)))) ?_; with_reducible repeat' first|exact trivial|intro h|refine aO ?_|refine eO ?_|apply jO)
       all_goals try (exfalso; omega)
       refine callS.eq (w209 g g.rules[i] hs hr hr3) ?_
       rcases (Bool.eq_false_or_eq_true (misR g g.rules[i])).symm with hw | hw
       ·(refine V1 hw ?_; with_reducible repeat' first|exact trivial|intro h|refine aO ?_|refine eO ?_|apply jO)
        exact nx ⟨i + 1, by omega, hnx hw⟩ (by simp <;> omega) (by simp [E2]) rfl
       ·rw [hit hw]
        (refine V1 hw ?_; with_reducible repeat' first|exact trivial|intro h|refine aO ?_|refine eO ?_|apply jO)
      ·have i3 : ((c : Int) = 3) = False := eq_false (by omega)
       have i4 : ((c : Int) = 4) = False := eq_false (by omega)
       have i5 : ((c : Int) = 5) = True := eq_true (by omega)
       have hbk : brk g g.rules[i] c = extR g g.rules[i] := by subst e; rfl
       rw [hbk] at hnx hit
       (refine V1 (jO i3 (jO i4 (jO i5 (jO @decide_true @decide_false)))) ?_; with_reducible repeat' first|exact trivial|intro h|refine aO ?_|refine eO ?_|apply jO)
       all_goals try (exfalso; omega)
       refine callS.eq (w210 g g.rules[i] hs hr hr3) ?_
       rcases (Bool.eq_false_or_eq_true (extR g g.rules[i])).symm with hw | hw
       ·(refine V1 hw ?_; with_reducible repeat' first|exact trivial|intro h|refine aO ?_|refine eO ?_|apply jO)
        exact nx ⟨i + 1, by omega, hnx hw⟩ (by simp <;> omega) (by simp [E2]) rfl
       ·rw [hit hw]
        (refine V1 hw ?_; with_reducible repeat' first|exact trivial|intro h|refine aO ?_|refine eO ?_|apply jO)
      ·have i3 : ((c : Int) = 3) = False := eq_false (by omega)
       have i4 : ((c : Int) = 4) = False := eq_false (by omega)
       have i5 : ((c : Int) = 5) = False := eq_false (by omega)
       have hbk : brk g g.rules[i] c = misU g g.rules[i] := by subst e; rfl
       rw [hbk] at hnx hit
       (refine V1 (jO i3 (jO i4 (jO i5 (jO @decide_true @decide_false)))) ?_; with_reducible repeat' first|exact trivial|intro h|refine aO ?_|refine eO ?_|apply jO)
       all_goals try (exfalso; omega)
       refine callS.eq (w211 g g.rules[i] hs hr) ?_
       rcases (Bool.eq_false_or_eq_true (misU g g.rules[i])).symm with hw | hw
       ·(refine V1 hw ?_; with_reducible repeat' first|exact trivial|intro h|refine aO ?_|refine eO ?_|apply jO)
        exact nx ⟨i + 1, by omega, hnx hw⟩ (by simp <;> omega) (by simp [E2]) rfl
       ·rw [hit hw]
        (refine V1 hw ?_; with_reducible repeat' first|exact trivial|intro h|refine aO ?_|refine eO ?_|apply jO)
     ·obtain rfl : i = g.rules.length := by omega
      (refine V0 ?_; with_reducible repeat' first|exact trivial|intro h|refine aO ?_|refine eO ?_|apply jO)
      all_goals try (exfalso; omega)
      exact nx ⟨c + 1, by omega, by omega, fun d hd3 hd => by
       rcases Nat.lt_succ_iff_lt_or_eq.1 hd with e | e
       ·exact hcn d hd3 e
       ·subst e; exact brF_none fun j hj => hn j hj hj⟩ (by simp <;> omega) (by simp [E2]) rfl
    ·obtain rfl : c = 7 := by omega
     rw [shpC_none hG hcn]
     (refine V0 ?_; with_reducible repeat' first|exact trivial|intro h|refine aO ?_|refine eO ?_|apply jO)
     all_goals try (exfalso; omega)
   ·rw [shpC_b3 h1 h2 (by rw [e0]; exact hv)]
    (refine V1 hv ?_; with_reducible repeat' first|exact trivial|intro h|refine aO ?_|refine eO ?_|apply jO)
 ·rw [shpC_b1 h1]
  by_cases a1 : ((1 : Int) ≤ g.syms.length ∧ (g.syms.length : Int) ≤ 4)
  ·have a2 : ¬ ((1 : Int) ≤ g.rules.length ∧ (g.rules.length : Int) ≤ 8) := by omega
   (repeat' (first | (with_reducible refine callS.eq (w48 _ _ _) ?_) | simp (maxSteps := 9^7) only [↓ S2, S2, vIte, ↓reduceIte, reduceNe, reduceEqDiff, reduceCtorEq, reduceLeDiff, reduceAdd, reduceLT, a1, a2, and_self, decide_true, decide_false] | simp only [brGen] | simp +contextual (disch := omega) only [Z2] | with_reducible first | intro h | refine And.intro (by omega) ?_ | refine exP (by omega) ?_ | apply And.intro))
  ·(repeat' (first | (with_reducible refine callS.eq (w48 _ _ _) ?_) | simp (maxSteps := 9^7) only [↓ S2, S2, vIte, ↓reduceIte, reduceNe, reduceEqDiff, reduceCtorEq, reduceLeDiff, reduceAdd, reduceLT, a1, decide_true, decide_false] | simp only [brGen] | simp +contextual (disch := omega) only [Z2] | with_reducible first | intro h | refine And.intro (by omega) ?_ | refine exP (by omega) ?_ | apply And.intro))
theorem w133 (g : Gram) (hs : smGr g) (hg : okGr g) : Pu 133 [Gr g] (· = .tup [I (shpC g).1, I (shpC g).2]) := by
 obtain ⟨m1, m2, m3, m4⟩ := id hs
 refine gstart mxd i133 rfl (by simp) ?_; refine X0 ?_
 (refine V0 ?_; with_reducible repeat' first|exact trivial|intro h|refine aO ?_|refine eO ?_|apply jO)
 by_cases h1 : (1 ≤ g.syms.length ∧ g.syms.length ≤ 4) ∧ (1 ≤ g.rules.length ∧ g.rules.length ≤ 8)
 ·have a1 : ((1 : Int) ≤ g.syms.length ∧ (g.syms.length : Int) ≤ 4) := by omega
  have a2 : ((1 : Int) ≤ g.rules.length ∧ (g.rules.length : Int) ≤ 8) := by omega
  (repeat' (first | (with_reducible refine callS.eq (w37 _ _ _) ?_) | simp (maxSteps := 9^7) only [↓ S2, S2, vIte, ↓reduceIte, reduceNe, reduceEqDiff, reduceCtorEq, reduceLeDiff, reduceAdd, reduceLT, a1, a2, and_self, decide_true] | simp only [brGen] | simp +contextual (disch := omega) only [Z2] | with_reducible first | intro h | refine And.intro (by omega) ?_ | refine exP (by omega) ?_ | apply And.intro))
  refine callS.eq (w192 g hs hg) ?_
  by_cases h2 : 0 ≤ sfI g
  ·rw [shpC_b2 h1 h2]
   (refine V1 (jO h2 (jO @ge_iff_le.{0} @decide_true)) ?_; with_reducible repeat' first|exact trivial|intro h|refine aO ?_|refine eO ?_|apply jO)
  ·have h2' : ¬ sfI g ≥ 0 := h2
   have h00 : 0 < g.syms.length := by omega
   have e0 : g.syms.getD 0 symZ = g.syms[0] := getD_lt h00
   have hal := m3 _ (List.getElem_mem h00)
   unfold smSy at hal
   (refine V1 (jO h2 (jO h2' (jO @ge_iff_le.{0} @decide_false))) ?_; with_reducible repeat' first|exact trivial|intro h|refine aO ?_|refine eO ?_|apply jO)
   all_goals try (exfalso; omega)
   refine wloop mxd (ι := { i : Nat // i ≤ g.syms[0].atts.length ∧ ∀ a ∈ g.syms[0].atts.take i, decide (a.mode = 1) = false }) (fun i => [(1, .rop 2 (Gr g)), (5, I i.1)]) (fun _ => []) (fun i => g.syms[0].atts.length - i.1) ⟨0, by simp⟩ (by simp [E2]) rfl ?_
   rintro ⟨i, hi, hn⟩
   rcases Nat.lt_or_ge i g.syms[0].atts.length with hlt | hge
   ·by_cases hm : g.syms[0].atts[i].mode = 1
    ·rw [shpC_b3 h1 h2 (by rw [e0]; exact any_yes hlt (by simp [hm]))]
     (refine V2 hm ?_; with_reducible repeat' first|exact trivial|intro h|refine aO ?_|refine eO ?_|apply jO)
     all_goals try (exfalso; omega)
    ·(refine V2 hm ?_; with_reducible repeat' first|exact trivial|intro h|refine aO ?_|refine eO ?_|apply jO)
     all_goals try (exfalso; omega)
     exact nx ⟨i + 1, by omega, takeP_step hlt (by simp [hm]) hn⟩ (by simp <;> omega) (by simp [E2]) rfl
   ·obtain rfl : i = g.syms[0].atts.length := by omega
    rw [List.take_length] at hn
    have hG : shpG g := ⟨h1, h2, by rw [e0]; exact any_no hn⟩
    ((try refine qI ?_); (repeat ((first | with_reducible refine qU ?_ | simp only [brGen]); try simp (maxSteps := 9^7) +contextual only [↓ S2, S2, ↓reduceIte, reduceNe, reduceEqDiff, reduceCtorEq, reduceLeDiff, reduceAdd, reduceLT, VQ, Int.reduceToNat])); (try simp +contextual (disch := omega) only [Z2, Int.reduceToNat]); (with_reducible repeat' (first | intro h | refine And.intro (by omega) ?_ | refine exP (by omega) ?_ | apply And.intro)))
    all_goals try (exfalso; omega)
    refine wloop mxd (ι := { c : Nat // 3 ≤ c ∧ c ≤ 7 ∧ ∀ d, 3 ≤ d → d < c → brF g d = -1 }) (fun c => [(1, .rop 2 (Gr g)), (6, I c.1)]) (fun _ => []) (fun c => 7 - c.1) ⟨3, by omega, by omega, fun d h3 h4 => by omega⟩ (by simp [E2]) rfl ?_
    rintro ⟨c, hc3, hc7, hcn⟩
    rcases Nat.lt_or_ge c 7 with hclt | hcge
    ·(refine V0 ?_; with_reducible repeat' first|exact trivial|intro h|refine aO ?_|refine eO ?_|apply jO)
     all_goals try (exfalso; omega)
     refine wloop mxd (ι := { i : Nat // i ≤ g.rules.length ∧ ∀ j (hj : j < g.rules.length), j < i → brk g g.rules[j] c = false }) (fun i => [(1, .rop 2 (Gr g)), (6, I c), (7, I i.1)]) (fun _ => []) (fun i => g.rules.length - i.1) ⟨0, by simp⟩ (by simp [E2]) rfl ?_
     rintro ⟨i, hi, hn⟩
     rcases Nat.lt_or_ge i g.rules.length with hlt | hge
     ·have hr := m4 _ (List.getElem_mem hlt)
      have hr3 := rulV_len (rul_ok h2 hlt)
      (refine V0 ?_; with_reducible repeat' first|exact trivial|intro h|refine aO ?_|refine eO ?_|apply jO)
      all_goals try (exfalso; omega)
      refine callS.eq (w193 g g.rules[i] c hs hr hr3) ?_
      rcases (Bool.eq_false_or_eq_true (brk g g.rules[i] c)).symm with hw | hw
      ·(refine V1 hw ?_; with_reducible repeat' first|exact trivial|intro h|refine aO ?_|refine eO ?_|apply jO)
       exact nx ⟨i + 1, by omega, fun j hj hji => by
        rcases Nat.lt_succ_iff_lt_or_eq.1 hji with e | e
        ·exact hn j hj e
        ·subst e; exact hw⟩ (by simp <;> omega) (by simp [E2]) rfl
      ·rw [shpC_hit hG hc3 (by omega) hcn (brF_hit hlt hw hn)]
       (refine V1 hw ?_; with_reducible repeat' first|exact trivial|intro h|refine aO ?_|refine eO ?_|apply jO)
     ·obtain rfl : i = g.rules.length := by omega
      (refine V0 ?_; with_reducible repeat' first|exact trivial|intro h|refine aO ?_|refine eO ?_|apply jO)
      all_goals try (exfalso; omega)
      exact nx ⟨c + 1, by omega, by omega, fun d hd3 hd => by
       rcases Nat.lt_succ_iff_lt_or_eq.1 hd with e | e
       ·exact hcn d hd3 e
       ·subst e; exact brF_none fun j hj => hn j hj hj⟩ (by simp <;> omega) (by simp [E2]) rfl
    ·obtain rfl : c = 7 := by omega
     rw [shpC_none hG hcn]
     (refine V0 ?_; with_reducible repeat' first|exact trivial|intro h|refine aO ?_|refine eO ?_|apply jO)
     all_goals try (exfalso; omega)
 ·rw [shpC_b1 h1]
  by_cases a1 : ((1 : Int) ≤ g.syms.length ∧ (g.syms.length : Int) ≤ 4)
  ·have a2 : ¬ ((1 : Int) ≤ g.rules.length ∧ (g.rules.length : Int) ≤ 8) := by omega
   (repeat' (first | (with_reducible refine callS.eq (w37 _ _ _) ?_) | simp (maxSteps := 9^7) only [↓ S2, S2, vIte, ↓reduceIte, reduceNe, reduceEqDiff, reduceCtorEq, reduceLeDiff, reduceAdd, reduceLT, a1, a2, and_self, decide_true, decide_false] | simp only [brGen] | simp +contextual (disch := omega) only [Z2] | with_reducible first | intro h | refine And.intro (by omega) ?_ | refine exP (by omega) ?_ | apply And.intro))
  ·(repeat' (first | (with_reducible refine callS.eq (w37 _ _ _) ?_) | simp (maxSteps := 9^7) only [↓ S2, S2, vIte, ↓reduceIte, reduceNe, reduceEqDiff, reduceCtorEq, reduceLeDiff, reduceAdd, reduceLT, a1, decide_true, decide_false] | simp only [brGen] | simp +contextual (disch := omega) only [Z2] | with_reducible first | intro h | refine And.intro (by omega) ?_ | refine exP (by omega) ?_ | apply And.intro))
end Go.Proofs.YthnchomedekciaaGreat
