/- The law FnExactApplyEdit returns true whatever the input, and the input reads behind the call as before. No condition. -/
import Derived.Test.YthnchomedekciaaGreatEed11
set_option maxHeartbeats 40000000
namespace Go.Proofs.YthnchomedekciaaGreat
open Go.Gh
open Nat (reduceEqDiff reduceLeDiff reduceAdd reduceLT)
open Int (reduceNe)
set_option maxRecDepth 20000
set_option linter.unusedSimpArgs false
set_option linter.unusedVariables false
theorem w245 (g : Gram) (r : Rul) (hg : smGr g) (hr : smRu r) : Pure Tryz.prog 245 [Gr g, Ru r] (· = B (!unkR g r)) := by
 have hl := hr.1
 refine gstart mxd i245 rfl (by simp) ?_; refine X0 ?_
 (refine V0 ?_; with_reducible repeat' first|exact trivial|intro h|refine aO ?_|refine eO ?_|apply jO)
 refine wloop mxd (ι := { i : Nat // i ≤ r.right.length + 1 ∧ ∀ j, j < i → hSym g.syms (symAt r (j : Nat)) = true }) (fun i => [(2, .rop 2 (Gr g)), (3, .rop 6 (Ru r)), (5, I i.1)]) (fun _ => []) (fun i => r.right.length + 1 - i.1) ⟨0, by simp⟩ (by simp [E2]) rfl ?_
 rintro ⟨i, hi, hn⟩
 rcases Nat.lt_or_ge i (r.right.length + 1) with hlt | hge
 ·(refine V0 ?_; with_reducible repeat' first|exact trivial|intro h|refine aO ?_|refine eO ?_|apply jO)
  all_goals try (exfalso; omega)
  refine callS.eq (w196 r i hr) ?_
  (refine V0 ?_; with_reducible repeat' first|exact trivial|intro h|refine aO ?_|refine eO ?_|apply jO)
  refine callS.eq (w104 g _ hg) ?_
  rcases (Bool.eq_false_or_eq_true (hSym g.syms (symAt r i))).symm with hv | hv
  ·rw [unkR_no hlt hv]
   (refine V1 hv ?_; with_reducible repeat' first|exact trivial|intro h|refine aO ?_|refine eO ?_|apply jO)
  ·(refine V1 hv ?_; with_reducible repeat' first|exact trivial|intro h|refine aO ?_|refine eO ?_|apply jO)
   exact nx ⟨i + 1, by omega, fun j hj => by
    rcases Nat.lt_succ_iff_lt_or_eq.1 hj with e | e
    ·exact hn j e
    ·subst e; exact hv⟩ (by simp <;> omega) (by simp [E2]) rfl
 ·obtain rfl : i = r.right.length + 1 := by omega
  rw [unkR_ok hn]
  (refine V0 ?_; with_reducible repeat' first|exact trivial|intro h|refine aO ?_|refine eO ?_|apply jO)
  all_goals try (exfalso; omega)
theorem w208 (g : Gram) (r : Rul) (hg : smGr g) (hr : smRu r) : Pure Tryz.prog 208 [Gr g, Ru r] (· = B (unkR g r)) := by
 have hl := hr.1
 refine gstart mxd i208 rfl (by simp) ?_; refine X0 ?_
 (refine V0 ?_; with_reducible repeat' first|exact trivial|intro h|refine aO ?_|refine eO ?_|apply jO)
 all_goals try (exfalso; omega)
 refine wloop mxd (ι := { i : Nat // i ≤ r.right.length + 1 ∧ ∀ j, j < i → hSym g.syms (symAt r (j : Nat)) = true }) (fun i => [(2, .rop 2 (Gr g)), (3, .rop 6 (Ru r)), (11, I ((r.right.length : Int) + 1)), (12, I i.1)]) (fun _ => []) (fun i => r.right.length + 1 - i.1) ⟨0, by simp⟩ (by simp [E2]) rfl ?_
 rintro ⟨i, hi, hn⟩
 rcases Nat.lt_or_ge i (r.right.length + 1) with hlt | hge
 ·(refine V0 ?_; with_reducible repeat' first|exact trivial|intro h|refine aO ?_|refine eO ?_|apply jO)
  all_goals try (exfalso; omega)
  refine callS.eq (w259 r i hr) ?_
  (refine V0 ?_; with_reducible repeat' first|exact trivial|intro h|refine aO ?_|refine eO ?_|apply jO)
  refine callS.eq (w123 g _ hg) ?_
  rcases (Bool.eq_false_or_eq_true (hSym g.syms (symAt r i))).symm with hv | hv
  ·rw [unkR_no hlt hv]
   (refine V1 hv ?_; with_reducible repeat' first|exact trivial|intro h|refine aO ?_|refine eO ?_|apply jO)
  ·(refine V1 hv ?_; with_reducible repeat' first|exact trivial|intro h|refine aO ?_|refine eO ?_|apply jO)
   exact nx ⟨i + 1, by omega, fun j hj => by
    rcases Nat.lt_succ_iff_lt_or_eq.1 hj with e | e
    ·exact hn j e
    ·subst e; exact hv⟩ (by simp <;> omega) (by simp [E2]) rfl
 ·obtain rfl : i = r.right.length + 1 := by omega
  rw [unkR_ok hn]
  (refine V0 ?_; with_reducible repeat' first|exact trivial|intro h|refine aO ?_|refine eO ?_|apply jO)
  all_goals try (exfalso; omega)
theorem w292 (g : Gram) (r : Rul) (hg : smGr g) (hr : smRu r) (hr3 : r.right.length ≤ 3) : Pure Tryz.prog 292 [Gr g, Ru r] (· = OcS (reqO g r)) := by
 refine Pure.bor ?_
 refine gstart mxd i292 rfl (by simp) ?_; refine X0 ?_
 (refine V0 ?_; with_reducible repeat' first|exact trivial|intro h|refine aO ?_|refine eO ?_|apply jO)
 rename_i r0
 refine ploop mxd (ι := { x : Nat × Nat // x.2 ≤ r.right.length + 1 }) (fun x => [(2, .rop 2 (Gr g)), (3, .rop 6 (Ru r)), (5, .own x.1.1 2 0 (reqA g r x.1.2).length), (6, I x.1.2)]) (fun x => [(x.1.1, 2, (reqA g r x.1.2).map Occ)]) (fun x => r.right.length + 1 - x.1.2) ⟨(r0, 0), by simp⟩ (by simp [E2, reqA]) (by simp [subH, hget, names, reqA]) ?_
 rintro ⟨⟨q, i⟩, hi⟩ hn
 dsimp only at hi hn ⊢
 rcases Nat.lt_or_ge i (r.right.length + 1) with hlt | hge
 ·(refine V0 ?_; with_reducible repeat' first|exact trivial|intro h|refine aO ?_|refine eO ?_|apply jO)
  all_goals try (exfalso; omega)
  refine callS.eq (w196 r i hr) ?_
  (refine V0 ?_; with_reducible repeat' first|exact trivial|intro h|refine aO ?_|refine eO ?_|apply jO)
  refine callS.eq (w104 g _ hg) ?_
  have hbl := reqA_len hg r i
  have hst : reqA g r (i + 1) = reqA g r i ++ ((((fSym g.syms (symAt r i)).atts.filter fun a => decide (a.mode = if i = 0 then 2 else 1)).map fun a => ((i : Int), a.name))) := rfl
  have hsm := smSy_f hg (symAt r i)
  unfold smSy at hsm
  generalize fSym g.syms (symAt r i) = s at *
  by_cases h0 : i = 0
  ·have hi1 : ((i : Int) = 0) = True := eq_true (by omega)
   rw [if_pos h0] at hst
   (refine V1 (jO hi1 @decide_true) ?_; with_reducible repeat' first|exact trivial|intro h|refine aO ?_|refine eO ?_|apply jO)
   obtain ⟨F, hF⟩ : ∃ F : Nat → List Oc, ∀ k, F k = reqA g r i ++ (((s.atts.take k).filter fun a => decide (a.mode = 2)).map fun a => ((i : Int), a.name)) := ⟨_, fun _ => rfl⟩
   have hF0 : F 0 = reqA g r i := by rw [hF]; simp
   have hFe : F s.atts.length = reqA g r (i + 1) := by rw [hF, hst, List.take_length]
   have hFs : ∀ k (hk : k < s.atts.length), F (k + 1) = F k ++ (if s.atts[k].mode = 2 then [((i : Int), s.atts[k].name)] else []) := fun k hk => by
    rw [hF, hF, reqP_take (g := g) (r := r) (pos := i) (m := 2) (by simp [h0]) s.atts hk, List.append_assoc]
   have hFl : ∀ k, (F k).length ≤ (reqA g r i).length + s.atts.length := fun k => by
    have h1 := List.length_filter_le (fun a : Att => decide (a.mode = 2)) (s.atts.take k)
    rw [List.length_take] at h1
    rw [hF, List.length_append, List.length_map]; omega
   clear hF
   refine ploop mxd (ι := { x : Nat × Nat // x.2 ≤ s.atts.length }) (fun x => [(2, .rop 2 (Gr g)), (3, .rop 6 (Ru r)), (5, .own x.1.1 2 0 (F x.1.2).length), (6, I i), (7, .rop 2 (Sy s)), (9, I 2), (10, I x.1.2)]) (fun x => [(x.1.1, 2, (F x.1.2).map Occ)]) (fun x => s.atts.length - x.1.2) ⟨(q, 0), by simp⟩ (by simp [E2, hF0]) (by simp [subH, hget, names, hF0]) ?_
   rintro ⟨⟨q, k⟩, hk⟩ hn
   dsimp only at hk hn ⊢
   have hl1 := hFl k
   rcases Nat.lt_or_ge k s.atts.length with hlt2 | hge2
   ·have e := hFs k hlt2
    rcases Decidable.em (s.atts[k].mode = 2) with hm | hm
    ·rw [if_pos hm] at e
     have el : (F (k + 1)).length = (F k).length + 1 := by rw [e]; simp
     (refine V1 (jO hm (jO @List.length_append.{0} (jO @List.length_singleton.{0} (jO @List.length_map.{0,0} (jO @List.length_take.{0} @maxLv))))) ?_; with_reducible repeat' first|exact trivial|intro h|refine aO ?_|refine eO ?_|apply jO)
     all_goals try (exfalso; omega)
     rename_i q2 _ q3
     refine px ⟨(q3, k + 1), by omega⟩ (by simp <;> omega) (by simp [E2, el]) ?_
     show subH _ [(q3, 2, (F (k + 1)).map Occ)]
     rw [e, List.map_append, List.take_of_length_le (by simp)]
     exact (by repeat' (first | exact trivial | (refine And.intro (by simp only [hget_c, *, if_true, if_false]; try rfl) (And.intro (by simp [names_cons, names_nil, *]) ?_))))
    ·rw [if_neg hm, List.append_nil] at e
     (refine V1 hm ?_; with_reducible repeat' first|exact trivial|intro h|refine aO ?_|refine eO ?_|apply jO)
     all_goals try (exfalso; omega)
     refine px ⟨(q, k + 1), by omega⟩ (by simp <;> omega) (by simp [E2, e]) ?_
     show subH _ [(q, 2, (F (k + 1)).map Occ)]
     rw [e]
     exact (by repeat' (first | exact trivial | (refine And.intro (by simp only [hget_c, *, if_true, if_false]; try rfl) (And.intro (by simp [names_cons, names_nil, *]) ?_))))
   ·obtain rfl : k = s.atts.length := by omega
    rw [hFe]
    (refine V0 ?_; with_reducible repeat' first|exact trivial|intro h|refine aO ?_|refine eO ?_|apply jO)
    all_goals try (exfalso; omega)
    exact px ⟨(q, i + 1), by omega⟩ (by simp <;> omega) (by simp [E2]) (by repeat' (first | exact trivial | (refine And.intro (by simp only [hget_c, *, if_true, if_false]; try rfl) (And.intro (by simp [names_cons, names_nil, *]) ?_))))
  ·have hi1 : ((i : Int) = 0) = False := eq_false (by omega)
   rw [if_neg h0] at hst
   (refine V1 (jO hi1 @decide_false) ?_; with_reducible repeat' first|exact trivial|intro h|refine aO ?_|refine eO ?_|apply jO)
   obtain ⟨F, hF⟩ : ∃ F : Nat → List Oc, ∀ k, F k = reqA g r i ++ (((s.atts.take k).filter fun a => decide (a.mode = 1)).map fun a => ((i : Int), a.name)) := ⟨_, fun _ => rfl⟩
   have hF0 : F 0 = reqA g r i := by rw [hF]; simp
   have hFe : F s.atts.length = reqA g r (i + 1) := by rw [hF, hst, List.take_length]
   have hFs : ∀ k (hk : k < s.atts.length), F (k + 1) = F k ++ (if s.atts[k].mode = 1 then [((i : Int), s.atts[k].name)] else []) := fun k hk => by
    rw [hF, hF, reqP_take (g := g) (r := r) (pos := i) (m := 1) (by simp [h0]) s.atts hk, List.append_assoc]
   have hFl : ∀ k, (F k).length ≤ (reqA g r i).length + s.atts.length := fun k => by
    have h1 := List.length_filter_le (fun a : Att => decide (a.mode = 1)) (s.atts.take k)
    rw [List.length_take] at h1
    rw [hF, List.length_append, List.length_map]; omega
   clear hF
   refine ploop mxd (ι := { x : Nat × Nat // x.2 ≤ s.atts.length }) (fun x => [(2, .rop 2 (Gr g)), (3, .rop 6 (Ru r)), (5, .own x.1.1 2 0 (F x.1.2).length), (6, I i), (7, .rop 2 (Sy s)), (9, I 1), (10, I x.1.2)]) (fun x => [(x.1.1, 2, (F x.1.2).map Occ)]) (fun x => s.atts.length - x.1.2) ⟨(q, 0), by simp⟩ (by simp [E2, hF0]) (by simp [subH, hget, names, hF0]) ?_
   rintro ⟨⟨q, k⟩, hk⟩ hn
   dsimp only at hk hn ⊢
   have hl1 := hFl k
   rcases Nat.lt_or_ge k s.atts.length with hlt2 | hge2
   ·have e := hFs k hlt2
    rcases Decidable.em (s.atts[k].mode = 1) with hm | hm
    ·rw [if_pos hm] at e
     have el : (F (k + 1)).length = (F k).length + 1 := by rw [e]; simp
     (refine V1 (jO hm (jO @List.length_append.{0} (jO @List.length_singleton.{0} (jO @List.length_map.{0,0} (jO @List.length_take.{0} @maxLv))))) ?_; with_reducible repeat' first|exact trivial|intro h|refine aO ?_|refine eO ?_|apply jO)
     all_goals try (exfalso; omega)
     rename_i q2 _ q3
     refine px ⟨(q3, k + 1), by omega⟩ (by simp <;> omega) (by simp [E2, el]) ?_
     show subH _ [(q3, 2, (F (k + 1)).map Occ)]
     rw [e, List.map_append, List.take_of_length_le (by simp)]
     exact (by repeat' (first | exact trivial | (refine And.intro (by simp only [hget_c, *, if_true, if_false]; try rfl) (And.intro (by simp [names_cons, names_nil, *]) ?_))))
    ·rw [if_neg hm, List.append_nil] at e
     (refine V1 hm ?_; with_reducible repeat' first|exact trivial|intro h|refine aO ?_|refine eO ?_|apply jO)
     all_goals try (exfalso; omega)
     refine px ⟨(q, k + 1), by omega⟩ (by simp <;> omega) (by simp [E2, e]) ?_
     show subH _ [(q, 2, (F (k + 1)).map Occ)]
     rw [e]
     exact (by repeat' (first | exact trivial | (refine And.intro (by simp only [hget_c, *, if_true, if_false]; try rfl) (And.intro (by simp [names_cons, names_nil, *]) ?_))))
   ·obtain rfl : k = s.atts.length := by omega
    rw [hFe]
    (refine V0 ?_; with_reducible repeat' first|exact trivial|intro h|refine aO ?_|refine eO ?_|apply jO)
    all_goals try (exfalso; omega)
    exact px ⟨(q, i + 1), by omega⟩ (by simp <;> omega) (by simp [E2]) (by repeat' (first | exact trivial | (refine And.intro (by simp only [hget_c, *, if_true, if_false]; try rfl) (And.intro (by simp [names_cons, names_nil, *]) ?_))))
 ·obtain rfl : i = r.right.length + 1 := by omega
  (refine V0 ?_; with_reducible repeat' first|exact trivial|intro h|refine aO ?_|refine eO ?_|apply jO)
  all_goals try (exfalso; omega)
  exact bor_OcS hget_new rfl
theorem w261 (g : Gram) (r : Rul) (hg : smGr g) (hr : smRu r) (hr3 : r.right.length ≤ 3) : Pure Tryz.prog 261 [Gr g, Ru r] (· = OcS (reqO g r)) := by
 refine Pure.bor ?_
 refine gstart mxd i261 rfl (by simp) ?_; refine X0 ?_
 (refine V0 ?_; with_reducible repeat' first|exact trivial|intro h|refine aO ?_|refine eO ?_|apply jO)
 all_goals try (exfalso; omega)
 rename_i r0
 refine ploop mxd (ι := { x : Nat × Nat // x.2 ≤ r.right.length + 1 }) (fun x => [(2, .rop 2 (Gr g)), (3, .rop 6 (Ru r)), (5, .own x.1.1 2 0 (reqA g r x.1.2).length), (16, I ((r.right.length : Int) + 1)), (17, I x.1.2)]) (fun x => [(x.1.1, 2, (reqA g r x.1.2).map Occ)]) (fun x => r.right.length + 1 - x.1.2) ⟨(r0, 0), by simp⟩ (by simp [E2, reqA]) (by simp [subH, hget, names, reqA]) ?_
 rintro ⟨⟨q, i⟩, hi⟩ hn
 dsimp only at hi hn ⊢
 rcases Nat.lt_or_ge i (r.right.length + 1) with hlt | hge
 ·have hbl := reqA_len hg r i
  have hst : reqA g r (i + 1) = reqA g r i ++ ((((fSym g.syms (symAt r i)).atts.filter fun a => decide (a.mode = if i = 0 then 2 else 1)).map fun a => ((i : Int), a.name))) := rfl
  have hsm := smSy_f hg (symAt r i)
  unfold smSy at hsm
  by_cases h0 : i = 0
  ·have hi1 : ((i : Int) = 0) = True := eq_true (by omega)
   rw [if_pos h0] at hst
   (refine V1 (jO hi1 @decide_true) ?_; with_reducible repeat' first|exact trivial|intro h|refine aO ?_|refine eO ?_|apply jO)
   all_goals try (exfalso; omega)
   refine callS.eq (w259 r i hr) ?_
   (refine V0 ?_; with_reducible repeat' first|exact trivial|intro h|refine aO ?_|refine eO ?_|apply jO)
   refine callS.eq (w123 g _ hg) ?_
   generalize fSym g.syms (symAt r i) = s at *
   (refine V0 ?_; with_reducible repeat' first|exact trivial|intro h|refine aO ?_|refine eO ?_|apply jO)
   obtain ⟨F, hF⟩ : ∃ F : Nat → List Oc, ∀ k, F k = reqA g r i ++ (((s.atts.take k).filter fun a => decide (a.mode = 2)).map fun a => ((i : Int), a.name)) := ⟨_, fun _ => rfl⟩
   have hF0 : F 0 = reqA g r i := by rw [hF]; simp
   have hFe : F s.atts.length = reqA g r (i + 1) := by rw [hF, hst, List.take_length]
   have hFs : ∀ k (hk : k < s.atts.length), F (k + 1) = F k ++ (if s.atts[k].mode = 2 then [((i : Int), s.atts[k].name)] else []) := fun k hk => by
    rw [hF, hF, reqP_take (g := g) (r := r) (pos := i) (m := 2) (by simp [h0]) s.atts hk, List.append_assoc]
   have hFl : ∀ k, (F k).length ≤ (reqA g r i).length + s.atts.length := fun k => by
    have h1 := List.length_filter_le (fun a : Att => decide (a.mode = 2)) (s.atts.take k)
    rw [List.length_take] at h1
    rw [hF, List.length_append, List.length_map]; omega
   clear hF
   refine ploop mxd (ι := { x : Nat × Nat // x.2 ≤ s.atts.length }) (fun x => [(2, .rop 2 (Gr g)), (3, .rop 6 (Ru r)), (5, .own x.1.1 2 0 (F x.1.2).length), (6, I i), (7, I 2), (16, I ((r.right.length : Int) + 1)), (17, I i), (31, AtS s.atts), (32, I s.atts.length), (33, I x.1.2)]) (fun x => [(x.1.1, 2, (F x.1.2).map Occ)]) (fun x => s.atts.length - x.1.2) ⟨(q, 0), by simp⟩ (by simp [E2, hF0]) (by simp [subH, hget, names, hF0]) ?_
   rintro ⟨⟨q, k⟩, hk⟩ hn
   dsimp only at hk hn ⊢
   have hl1 := hFl k
   rcases Nat.lt_or_ge k s.atts.length with hlt2 | hge2
   ·have e := hFs k hlt2
    rcases Decidable.em (s.atts[k].mode = 2) with hm | hm
    ·rw [if_pos hm] at e
     have el : (F (k + 1)).length = (F k).length + 1 := by rw [e]; simp
     (refine V1 (jO hm (jO @List.length_append.{0} (jO @List.length_singleton.{0} (jO @List.length_map.{0,0} (jO @List.length_take.{0} @maxLv))))) ?_; with_reducible repeat' first|exact trivial|intro h|refine aO ?_|refine eO ?_|apply jO)
     all_goals try (exfalso; omega)
     rename_i q2 _ q3
     refine px ⟨(q3, k + 1), by omega⟩ (by simp <;> omega) (by simp [E2, el]) ?_
     show subH _ [(q3, 2, (F (k + 1)).map Occ)]
     rw [e, List.map_append, List.take_of_length_le (by simp)]
     exact (by repeat' (first | exact trivial | (refine And.intro (by simp only [hget_c, *, if_true, if_false]; try rfl) (And.intro (by simp [names_cons, names_nil, *]) ?_))))
    ·rw [if_neg hm, List.append_nil] at e
     (refine V1 hm ?_; with_reducible repeat' first|exact trivial|intro h|refine aO ?_|refine eO ?_|apply jO)
     all_goals try (exfalso; omega)
     refine px ⟨(q, k + 1), by omega⟩ (by simp <;> omega) (by simp [E2, e]) ?_
     show subH _ [(q, 2, (F (k + 1)).map Occ)]
     rw [e]
     exact (by repeat' (first | exact trivial | (refine And.intro (by simp only [hget_c, *, if_true, if_false]; try rfl) (And.intro (by simp [names_cons, names_nil, *]) ?_))))
   ·obtain rfl : k = s.atts.length := by omega
    rw [hFe]
    (refine V0 ?_; with_reducible repeat' first|exact trivial|intro h|refine aO ?_|refine eO ?_|apply jO)
    all_goals try (exfalso; omega)
    exact px ⟨(q, i + 1), by omega⟩ (by simp <;> omega) (by simp [E2]) (by repeat' (first | exact trivial | (refine And.intro (by simp only [hget_c, *, if_true, if_false]; try rfl) (And.intro (by simp [names_cons, names_nil, *]) ?_))))
  ·have hi1 : ((i : Int) = 0) = False := eq_false (by omega)
   rw [if_neg h0] at hst
   (refine V1 (jO hi1 @decide_false) ?_; with_reducible repeat' first|exact trivial|intro h|refine aO ?_|refine eO ?_|apply jO)
   all_goals try (exfalso; omega)
   refine callS.eq (w259 r i hr) ?_
   (refine V0 ?_; with_reducible repeat' first|exact trivial|intro h|refine aO ?_|refine eO ?_|apply jO)
   refine callS.eq (w123 g _ hg) ?_
   generalize fSym g.syms (symAt r i) = s at *
   (refine V0 ?_; with_reducible repeat' first|exact trivial|intro h|refine aO ?_|refine eO ?_|apply jO)
   obtain ⟨F, hF⟩ : ∃ F : Nat → List Oc, ∀ k, F k = reqA g r i ++ (((s.atts.take k).filter fun a => decide (a.mode = 1)).map fun a => ((i : Int), a.name)) := ⟨_, fun _ => rfl⟩
   have hF0 : F 0 = reqA g r i := by rw [hF]; simp
   have hFe : F s.atts.length = reqA g r (i + 1) := by rw [hF, hst, List.take_length]
   have hFs : ∀ k (hk : k < s.atts.length), F (k + 1) = F k ++ (if s.atts[k].mode = 1 then [((i : Int), s.atts[k].name)] else []) := fun k hk => by
    rw [hF, hF, reqP_take (g := g) (r := r) (pos := i) (m := 1) (by simp [h0]) s.atts hk, List.append_assoc]
   have hFl : ∀ k, (F k).length ≤ (reqA g r i).length + s.atts.length := fun k => by
    have h1 := List.length_filter_le (fun a : Att => decide (a.mode = 1)) (s.atts.take k)
    rw [List.length_take] at h1
    rw [hF, List.length_append, List.length_map]; omega
   clear hF
   refine ploop mxd (ι := { x : Nat × Nat // x.2 ≤ s.atts.length }) (fun x => [(2, .rop 2 (Gr g)), (3, .rop 6 (Ru r)), (5, .own x.1.1 2 0 (F x.1.2).length), (6, I i), (7, I 1), (16, I ((r.right.length : Int) + 1)), (17, I i), (31, AtS s.atts), (32, I s.atts.length), (33, I x.1.2)]) (fun x => [(x.1.1, 2, (F x.1.2).map Occ)]) (fun x => s.atts.length - x.1.2) ⟨(q, 0), by simp⟩ (by simp [E2, hF0]) (by simp [subH, hget, names, hF0]) ?_
   rintro ⟨⟨q, k⟩, hk⟩ hn
   dsimp only at hk hn ⊢
   have hl1 := hFl k
   rcases Nat.lt_or_ge k s.atts.length with hlt2 | hge2
   ·have e := hFs k hlt2
    rcases Decidable.em (s.atts[k].mode = 1) with hm | hm
    ·rw [if_pos hm] at e
     have el : (F (k + 1)).length = (F k).length + 1 := by rw [e]; simp
     (refine V1 (jO hm (jO @List.length_append.{0} (jO @List.length_singleton.{0} (jO @List.length_map.{0,0} (jO @List.length_take.{0} @maxLv))))) ?_; with_reducible repeat' first|exact trivial|intro h|refine aO ?_|refine eO ?_|apply jO)
     all_goals try (exfalso; omega)
     rename_i q2 _ q3
     refine px ⟨(q3, k + 1), by omega⟩ (by simp <;> omega) (by simp [E2, el]) ?_
     show subH _ [(q3, 2, (F (k + 1)).map Occ)]
     rw [e, List.map_append, List.take_of_length_le (by simp)]
     exact (by repeat' (first | exact trivial | (refine And.intro (by simp only [hget_c, *, if_true, if_false]; try rfl) (And.intro (by simp [names_cons, names_nil, *]) ?_))))
    ·rw [if_neg hm, List.append_nil] at e
     (refine V1 hm ?_; with_reducible repeat' first|exact trivial|intro h|refine aO ?_|refine eO ?_|apply jO)
     all_goals try (exfalso; omega)
     refine px ⟨(q, k + 1), by omega⟩ (by simp <;> omega) (by simp [E2, e]) ?_
     show subH _ [(q, 2, (F (k + 1)).map Occ)]
     rw [e]
     exact (by repeat' (first | exact trivial | (refine And.intro (by simp only [hget_c, *, if_true, if_false]; try rfl) (And.intro (by simp [names_cons, names_nil, *]) ?_))))
   ·obtain rfl : k = s.atts.length := by omega
    rw [hFe]
    (refine V0 ?_; with_reducible repeat' first|exact trivial|intro h|refine aO ?_|refine eO ?_|apply jO)
    all_goals try (exfalso; omega)
    exact px ⟨(q, i + 1), by omega⟩ (by simp <;> omega) (by simp [E2]) (by repeat' (first | exact trivial | (refine And.intro (by simp only [hget_c, *, if_true, if_false]; try rfl) (And.intro (by simp [names_cons, names_nil, *]) ?_))))
 ·obtain rfl : i = r.right.length + 1 := by omega
  (refine V0 ?_; with_reducible repeat' first|exact trivial|intro h|refine aO ?_|refine eO ?_|apply jO)
  all_goals try (exfalso; omega)
  exact bor_OcS hget_new rfl
theorem w262 (r : Rul) (o : Oc) (hr : smRu r) : Pure Tryz.prog 262 [Occ o, .rop 6 (Ru r)] (· = B (!(eqnF r o).isSome)) := by
 refine gstart mxd i262 rfl (by simp) ?_; refine X0 ?_
 (refine V0 ?_; with_reducible repeat' first|exact trivial|intro h|refine aO ?_|refine eO ?_|apply jO)
 refine callS.eq (w263 r.eqs 264 [.rop 2 (Occ o)] (fun q => decide (q.pos = o.1 ∧ q.name = o.2)) fun x _ => w264 x o) ?_
 rw [← eqnF_any]
 (refine V0 ?_; with_reducible repeat' first|exact trivial|intro h|refine aO ?_|refine eO ?_|apply jO)
theorem w209 (g : Gram) (r : Rul) (hg : smGr g) (hr : smRu r) (hr3 : r.right.length ≤ 3) : Pure Tryz.prog 209 [Gr g, Ru r] (· = B (misR g r)) := by
 refine gstart mxd i209 rfl (by simp) ?_; refine X0 ?_
 (refine V0 ?_; with_reducible repeat' first|exact trivial|intro h|refine aO ?_|refine eO ?_|apply jO)
 refine callS.eq (w261 g r hg hr hr3) ?_
 (refine V0 ?_; with_reducible repeat' first|exact trivial|intro h|refine aO ?_|refine eO ?_|apply jO)
 refine callS.eq (w260 (reqO g r) 262 [.rop 6 (Ru r)] (fun o => !(eqnF r o).isSome) fun x _ => w262 r x hr) ?_
 (refine V0 ?_; with_reducible repeat' first|exact trivial|intro h|refine aO ?_|refine eO ?_|apply jO)
 rfl
theorem w246 (g : Gram) (r : Rul) (hg : smGr g) (hr : smRu r) (hr3 : r.right.length ≤ 3) : Pure Tryz.prog 246 [Gr g, Ru r] (· = B (misR g r)) := by
 have hbl := reqA_len hg r (r.right.length + 1)
 have hrq : reqO g r = reqA g r (r.right.length + 1) := rfl
 rw [← hrq] at hbl
 have hmr : misR g r = (reqO g r).any fun o => !(eqnF r o).isSome := rfl
 rw [hmr]
 refine gstart mxd i246 rfl (by simp) ?_; refine X0 ?_
 (refine V0 ?_; with_reducible repeat' first|exact trivial|intro h|refine aO ?_|refine eO ?_|apply jO)
 refine callS.eq (w292 g r hg hr hr3) ?_
 generalize reqO g r = L at *
 (refine V0 ?_; with_reducible repeat' first|exact trivial|intro h|refine aO ?_|refine eO ?_|apply jO)
 refine wloop mxd (ι := { i : Nat // i ≤ L.length ∧ ∀ o ∈ L.take i, (!(eqnF r o).isSome) = false }) (fun i => [(3, .rop 6 (Ru r)), (5, OcS L), (6, I i.1)]) (fun _ => []) (fun i => L.length - i.1) ⟨0, by simp⟩ (by simp [E2]) rfl ?_
 rintro ⟨i, hi, hn⟩
 rcases Nat.lt_or_ge i L.length with hlt | hge
 ·(refine V0 ?_; with_reducible repeat' first|exact trivial|intro h|refine aO ?_|refine eO ?_|apply jO)
  all_goals try (exfalso; omega)
  refine callS.eq (w165 r L[i] hr) ?_
  rcases (Bool.eq_false_or_eq_true (eqnF r L[i]).isSome).symm with hv | hv
  ·rw [any_yes (p := fun o => !(eqnF r o).isSome) hlt (by rw [hv]; rfl)]
   (refine V1 (jO hv @XE) ?_; with_reducible repeat' first|exact trivial|intro h|refine aO ?_|refine eO ?_|apply jO)
  ·(refine V1 (jO hv @XE) ?_; with_reducible repeat' first|exact trivial|intro h|refine aO ?_|refine eO ?_|apply jO)
   exact nx ⟨i + 1, by omega, takeP_step (p := fun o => !(eqnF r o).isSome) hlt (by rw [hv]; rfl) hn⟩ (by simp <;> omega) (by simp [E2]) rfl
 ·obtain rfl : i = L.length := by omega
  rw [List.take_length] at hn
  rw [any_no (p := fun o => !(eqnF r o).isSome) hn]
  (refine V0 ?_; with_reducible repeat' first|exact trivial|intro h|refine aO ?_|refine eO ?_|apply jO)
  all_goals try (exfalso; omega)
theorem w302 (L : List Oc) (y : Oc) : Pure Tryz.prog 302 [OcS L, Occ y] (· = I (ixI L y)) := by
 refine GCalls.lenA fun hlen => ?_
 have hlen := hlen.1.1
 simp only [List.length_map, maxL] at hlen
 refine gstart mxd i302 rfl (by simp) ?_; refine X0 ?_
 (refine V0 ?_; with_reducible repeat' first|exact trivial|intro h|refine aO ?_|refine eO ?_|apply jO)
 refine wloop mxd (ι := { i : Nat // i ≤ L.length ∧ ∀ a ∈ L.take i, decide (a = y) = false }) (fun i => [(0, OcS L), (3, .rop 2 (Occ y)), (7, I L.length), (8, I i.1)]) (fun _ => []) (fun i => L.length - i.1) ⟨0, by simp⟩ (by simp [E2]) rfl ?_
 rintro ⟨i, hi, hn⟩
 rcases Nat.lt_or_ge i L.length with hlt | hge
 ·by_cases he : L[i] = y
  ·have he1 : y.1 = L[i].1 := by rw [he]
   have he2 : y.2 = L[i].2 := by rw [he]
   have e : ixI L y = i := ixOf_hit hlt (by simp [he]) hn
   rw [e]
   (refine V1 (jO he1 he2) ?_; with_reducible repeat' first|exact trivial|intro h|refine aO ?_|refine eO ?_|apply jO)
   all_goals first | rfl | (exfalso; omega)
  ·(refine V0 ?_; with_reducible repeat' first|exact trivial|intro h|refine aO ?_|refine eO ?_|apply jO)
   all_goals first
    | (exfalso; exact he (Prod.ext (Eq.symm (by assumption)) (Eq.symm (by assumption))))
    | (exfalso; omega)
    | exact nx ⟨i + 1, by omega, take_step hlt (by simp [he]) hn⟩ (by simp <;> omega) (by simp [E2]) rfl
 ·obtain rfl : i = L.length := by omega
  rw [List.take_length] at hn
  have e : ixI L y = -1 := ixOf_none hn
  rw [e]
  (refine V0 ?_; with_reducible repeat' first|exact trivial|intro h|refine aO ?_|refine eO ?_|apply jO)
  all_goals first | rfl | (exfalso; omega)
theorem w265 (L : List Oc) (y : Oc) : Pure Tryz.prog 265 [OcS L, Occ y] (· = B (hasO L y)) := by
 have e : hasO L y = decide (0 ≤ ixI L y) := (any_ix (fun z => decide (z = y)) L).symm
 rw [e]
 refine gstart mxd i265 rfl (by simp) ?_; refine X0 ?_
 (refine V0 ?_; with_reducible repeat' first|exact trivial|intro h|refine aO ?_|refine eO ?_|apply jO)
 refine callS.eq (w302 L y) ?_
 (refine V0 ?_; with_reducible repeat' first|exact trivial|intro h|refine aO ?_|refine eO ?_|apply jO)
theorem w293 (L : List Oc) (y : Oc) : Pure Tryz.prog 293 [OcS L, Occ y] (· = B (hasO L y)) := by
 refine GCalls.lenA fun hlen => ?_
 have hlen := hlen.1.1
 simp only [List.length_map, maxL] at hlen
 refine gstart mxd i293 rfl (by simp) ?_; refine X0 ?_
 (refine V0 ?_; with_reducible repeat' first|exact trivial|intro h|refine aO ?_|refine eO ?_|apply jO)
 refine wloop mxd (ι := { i : Nat // i ≤ L.length ∧ ∀ a ∈ L.take i, decide (a = y) = false }) (fun i => [(0, OcS L), (3, .rop 2 (Occ y)), (5, I i.1)]) (fun _ => []) (fun i => L.length - i.1) ⟨0, by simp⟩ (by simp [E2]) rfl ?_
 rintro ⟨i, hi, hn⟩
 rcases Nat.lt_or_ge i L.length with hlt | hge
 ·by_cases he : L[i] = y
  ·have he1 : L[i].1 = y.1 := by rw [he]
   have he2 : L[i].2 = y.2 := by rw [he]
   rw [hasO_hit hlt he]
   (refine V1 (jO he1 he2) ?_; with_reducible repeat' first|exact trivial|intro h|refine aO ?_|refine eO ?_|apply jO)
   all_goals first | rfl | (exfalso; omega)
  ·(refine V0 ?_; with_reducible repeat' first|exact trivial|intro h|refine aO ?_|refine eO ?_|apply jO)
   all_goals first
    | (exfalso; exact he (Prod.ext (by assumption) (by assumption)))
    | (exfalso; omega)
    | exact nx ⟨i + 1, by omega, take_step hlt (by simp [he]) hn⟩ (by simp <;> omega) (by simp [E2]) rfl
 ·obtain rfl : i = L.length := by omega
  rw [List.take_length] at hn
  rw [hasO_none hn]
  (refine V0 ?_; with_reducible repeat' first|exact trivial|intro h|refine aO ?_|refine eO ?_|apply jO)
  all_goals first | rfl | (exfalso; omega)
theorem w210 (g : Gram) (r : Rul) (hg : smGr g) (hr : smRu r) (hr3 : r.right.length ≤ 3) : Pure Tryz.prog 210 [Gr g, Ru r] (· = B (extR g r)) := by
 have hel := hr.2.1
 have hno (i : Nat) (h : i < r.eqs.length) := extR_no (g := g) (r := r) (i := i) h
 have hok := extR_ok (g := g) (r := r)
 refine gstart mxd i210 rfl (by simp) ?_; refine X0 ?_
 (refine V1 @XE ?_; with_reducible repeat' first|exact trivial|intro h|refine aO ?_|refine eO ?_|apply jO)
 refine callS.eq (w261 g r hg hr hr3) ?_
 generalize reqO g r = L at *
 (refine V1 @XE ?_; with_reducible repeat' first|exact trivial|intro h|refine aO ?_|refine eO ?_|apply jO)
 refine wloop mxd (ι := { i : Nat // i ≤ r.eqs.length ∧ ∀ j (hj : j < r.eqs.length), j < i → hasO L (atQ r.eqs[j]) = true ∧ hasO ((r.eqs.take j).map atQ) (atQ r.eqs[j]) = false }) (fun i => [(3, .rop 6 (Ru r)), (5, OcS L), (12, QnS r.eqs), (13, I r.eqs.length), (14, I i.1)]) (fun _ => []) (fun i => r.eqs.length - i.1) ⟨0, by simp⟩ (by simp [E2]) rfl ?_
 rintro ⟨i, hi, hn⟩
 rcases Nat.lt_or_ge i r.eqs.length with hlt | hge
 ·(refine V1 @XE ?_; with_reducible repeat' first|exact trivial|intro h|refine aO ?_|refine eO ?_|apply jO)
  all_goals try (exfalso; omega)
  refine callS.eq (w265 L (atQ r.eqs[i])) ?_
  rcases (Bool.eq_false_or_eq_true (hasO L (atQ r.eqs[i]))).symm with hv | hv
  ·rw [hno i hlt (.inl hv)]
   (refine V1 (jO hv @XE) ?_; with_reducible repeat' first|exact trivial|intro h|refine aO ?_|refine eO ?_|apply jO)
  ·(refine V1 (jO hv @XE) ?_; with_reducible repeat' first|exact trivial|intro h|refine aO ?_|refine eO ?_|apply jO)
   all_goals try (exfalso; omega)
   rw [show List.drop (Int.toNat 0) (List.take i (List.map Qn r.eqs)) = (r.eqs.take i).map Qn from by simp [List.map_take]]
   refine callS.eq (w263 (r.eqs.take i) 266 [.rop 9 (Qn r.eqs[i])] (fun q => decide (q.pos = r.eqs[i].pos ∧ q.name = r.eqs[i].name)) fun x _ => w266 x _) ?_
   have e : ((r.eqs.take i).any fun q => decide (q.pos = r.eqs[i].pos ∧ q.name = r.eqs[i].name)) = hasO ((r.eqs.take i).map atQ) (atQ r.eqs[i]) := (hasO_map (r.eqs.take i) (atQ r.eqs[i])).symm
   rw [e]
   rcases (Bool.eq_false_or_eq_true (hasO ((r.eqs.take i).map atQ) (atQ r.eqs[i]))).symm with hw | hw
   ·(refine V1 hw ?_; with_reducible repeat' first|exact trivial|intro h|refine aO ?_|refine eO ?_|apply jO)
    exact nx ⟨i + 1, by omega, fun j hj hji => by
     rcases Nat.lt_succ_iff_lt_or_eq.1 hji with e | e
     ·exact hn j hj e
     ·subst e; exact ⟨hv, hw⟩⟩ (by simp <;> omega) (by simp [E2]) rfl
   ·rw [hno i hlt (.inr hw)]
    (refine V1 hw ?_; with_reducible repeat' first|exact trivial|intro h|refine aO ?_|refine eO ?_|apply jO)
 ·obtain rfl : i = r.eqs.length := by omega
  rw [hok fun j hj => hn j hj hj]
  (refine V0 ?_; with_reducible repeat' first|exact trivial|intro h|refine aO ?_|refine eO ?_|apply jO)
  all_goals try (exfalso; omega)
theorem w247 (g : Gram) (r : Rul) (hg : smGr g) (hr : smRu r) (hr3 : r.right.length ≤ 3) : Pure Tryz.prog 247 [Gr g, Ru r] (· = B (extR g r)) := by
 have hel := hr.2.1
 have hno (i : Nat) (h : i < r.eqs.length) := extR_no (g := g) (r := r) (i := i) h
 have hok := extR_ok (g := g) (r := r)
 refine Pure.bor ?_
 refine gstart mxd i247 rfl (by simp) ?_; refine X0 ?_
 (refine V1 @XE ?_; with_reducible repeat' first|exact trivial|intro h|refine aO ?_|refine eO ?_|apply jO)
 refine callS.eq (w292 g r hg hr hr3) ?_
 generalize reqO g r = L at *
 (refine V1 @XE ?_; with_reducible repeat' first|exact trivial|intro h|refine aO ?_|refine eO ?_|apply jO)
 rename_i r0
 refine ploop mxd (ι := { x : Nat × Nat // x.2 ≤ r.eqs.length ∧ ∀ j (hj : j < r.eqs.length), j < x.2 → hasO L (atQ r.eqs[j]) = true ∧ hasO ((r.eqs.take j).map atQ) (atQ r.eqs[j]) = false }) (fun x => [(3, .rop 6 (Ru r)), (5, OcS L), (6, .own x.1.1 2 0 x.1.2), (7, I x.1.2)]) (fun x => [(x.1.1, 2, ((r.eqs.take x.1.2).map atQ).map Occ)]) (fun x => r.eqs.length - x.1.2) ⟨(r0, 0), by simp⟩ (by simp [E2]) (by simp [subH, hget, names]) ?_
 rintro ⟨⟨q, i⟩, hi, hn⟩ -
 dsimp only at hi hn ⊢
 rcases Nat.lt_or_ge i r.eqs.length with hlt | hge
 ·(refine V1 @XE ?_; with_reducible repeat' first|exact trivial|intro h|refine aO ?_|refine eO ?_|apply jO)
  all_goals try (exfalso; omega)
  refine callS.eq (w293 L (atQ r.eqs[i])) ?_
  rcases (Bool.eq_false_or_eq_true (hasO L (atQ r.eqs[i]))).symm with hv | hv
  ·rw [hno i hlt (.inl hv)]
   (refine V1 (jO hv @XE) ?_; with_reducible repeat' first|exact trivial|intro h|refine aO ?_|refine eO ?_|apply jO)
   exact .refl
  ·(refine V1 (jO hv @XE) ?_; with_reducible repeat' first|exact trivial|intro h|refine aO ?_|refine eO ?_|apply jO)
   all_goals try (exfalso; omega)
   refine callS.borA (w293 ((r.eqs.take i).map atQ) (atQ r.eqs[i])) (.cons (bor_OcS hget_new (by simp <;> omega)) (.cons .refl .nil)) rfl ?_
   rcases (Bool.eq_false_or_eq_true (hasO ((r.eqs.take i).map atQ) (atQ r.eqs[i]))).symm with hw | hw
   ·(refine V1 (jO hw (jO @XE (jO @List.length_append.{0} (jO @List.length_singleton.{0} (jO @List.length_map.{0,0} (jO @List.length_take.{0} @maxLv)))))) ?_; with_reducible repeat' first|exact trivial|intro h|refine aO ?_|refine eO ?_|apply jO)
    all_goals try (exfalso; omega)
    rename_i q2 _ q3
    have e := takeApp2 Occ atQ r.eqs i hlt
    simp only [atQ] at e
    rw [e]
    exact px ⟨(q3, i + 1), by omega, fun j hj hji => by
     rcases Nat.lt_succ_iff_lt_or_eq.1 hji with e | e
     ·exact hn j hj e
     ·subst e; exact ⟨hv, hw⟩⟩ (by simp <;> omega) (by simp [E2]) (by repeat' (first | exact trivial | (refine And.intro (by simp only [hget_c, *, if_true, if_false]; try rfl) (And.intro (by simp [names_cons, names_nil, *]) ?_))))
   ·rw [hno i hlt (.inr hw)]
    (refine V1 hw ?_; with_reducible repeat' first|exact trivial|intro h|refine aO ?_|refine eO ?_|apply jO)
    exact .refl
 ·obtain rfl : i = r.eqs.length := by omega
  rw [hok fun j hj => hn j hj hj]
  (refine V0 ?_; with_reducible repeat' first|exact trivial|intro h|refine aO ?_|refine eO ?_|apply jO)
  all_goals first | (exfalso; omega) | exact .refl
end Go.Proofs.YthnchomedekciaaGreat
