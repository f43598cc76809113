/- The law FnExactApplyEdits returns true whatever the input, and the input reads behind the call as before. No condition. -/
import Derived.Test.YthnchomedekciaaGreatEes12
set_option maxHeartbeats 40000000
namespace Go.Proofs.YthnchomedekciaaGreat
open Go.Gh
open Nat (reduceEqDiff reduceLeDiff reduceAdd reduceLT)
open Int (reduceNe)
set_option maxRecDepth 20000
set_option linter.unusedSimpArgs false
set_option linter.unusedVariables false
theorem w146 (g : Gram) (r : Rul) (hg : smGr g) (hr : smRu r) : Pu 146 [Gr g, Ru r] (· = B (misT g r)) := by
 obtain ⟨m1, m2, m3, m4, m5⟩ := id hr
 refine gstart mxd i146 rfl (by simp) ?_; refine X0 ?_
 (refine V1 @XE ?_; with_reducible repeat' first|exact trivial|intro h|refine aO ?_|refine eO ?_|apply jO)
 refine wloop mxd (ι := { i : Nat // i ≤ r.eqs.length ∧ ∀ q ∈ r.eqs.take i, decide (tyE g r q.expr = (attAt g r q.pos q.name).type) = true }) (fun i => [(2, .rop 2 (Gr g)), (3, .rop 6 (Ru r)), (16, QnS r.eqs), (17, I r.eqs.length), (18, I i.1)]) (fun _ => []) (fun i => r.eqs.length - i.1) ⟨0, by simp⟩ (by simp [E2]) rfl ?_
 rintro ⟨i, hi, hn⟩
 rcases Nat.lt_or_ge i r.eqs.length with hlt | hge
 ·(refine V1 @XE ?_; with_reducible repeat' first|exact trivial|intro h|refine aO ?_|refine eO ?_|apply jO)
  all_goals try (exfalso; omega)
  refine callS.eq (w212 g r (r.eqs[i].pos, r.eqs[i].name) hg hr) ?_
  (refine V1 @XE ?_; with_reducible repeat' first|exact trivial|intro h|refine aO ?_|refine eO ?_|apply jO)
  refine callS.eq (w213 g r hg hr r.eqs[i].expr (m4 _ (List.getElem_mem hlt))) ?_
  by_cases hb : tyE g r r.eqs[i].expr = (attAt g r r.eqs[i].pos r.eqs[i].name).type
  ·(refine V1 hb ?_; with_reducible repeat' first|exact trivial|intro h|refine aO ?_|refine eO ?_|apply jO)
   exact nx ⟨i + 1, by omega, takeP_step (p := fun q : Eqn => decide (tyE g r q.expr = (attAt g r q.pos q.name).type)) hlt (decide_eq_true hb) hn⟩ (by simp <;> omega) (by simp [E2]) rfl
  ·rw [misT_e hlt hb]
   (refine V1 hb ?_; with_reducible repeat' first|exact trivial|intro h|refine aO ?_|refine eO ?_|apply jO)
 ·obtain rfl : i = r.eqs.length := by omega
  rw [List.take_length] at hn
  (refine V1 @XE ?_; with_reducible repeat' first|exact trivial|intro h|refine aO ?_|refine eO ?_|apply jO)
  all_goals try (exfalso; omega)
  refine wloop mxd (ι := { i : Nat // i ≤ r.cons.length ∧ ∀ c ∈ r.cons.take i, conT g r c = false }) (fun i => [(2, .rop 2 (Gr g)), (3, .rop 6 (Ru r)), (40, CoS r.cons), (41, I r.cons.length), (42, I i.1)]) (fun _ => []) (fun i => r.cons.length - i.1) ⟨0, by simp⟩ (by simp [E2]) rfl ?_
  rintro ⟨i, hi, hn2⟩
  rcases Nat.lt_or_ge i r.cons.length with hlt | hge
  ·have hc := m5 _ (List.getElem_mem hlt)
   (refine V1 @XE ?_; with_reducible repeat' first|exact trivial|intro h|refine aO ?_|refine eO ?_|apply jO)
   all_goals try (exfalso; omega)
   refine callS.eq (w123 g _ hg) ?_
   (refine V1 @XE ?_; with_reducible repeat' first|exact trivial|intro h|refine aO ?_|refine eO ?_|apply jO)
   refine callS.eq (w214 _ _ (smSy_f hg _)) ?_
   (refine V1 @XE ?_; with_reducible repeat' first|exact trivial|intro h|refine aO ?_|refine eO ?_|apply jO)
   refine callS.eq (w213 g r hg hr r.cons[i].goal hc.1) ?_
   by_cases h1 : tyE g r r.cons[i].goal = 4
   ·(refine V1 (jO @XE h1) ?_; with_reducible repeat' first|exact trivial|intro h|refine aO ?_|refine eO ?_|apply jO)
    refine callS.eq (w213 g r hg hr r.cons[i].value hc.2) ?_
    by_cases h2 : tyE g r r.cons[i].value = 2
    ·by_cases h3 : (fAtt (fSym g.syms r.cons[i].sym).atts r.cons[i].name).mode = 3
     ·(refine V1 (jO h2 h3) ?_; with_reducible repeat' first|exact trivial|intro h|refine aO ?_|refine eO ?_|apply jO)
      exact nx ⟨i + 1, by omega, takeP_step (p := conT g r) hlt (by simp [conT, h1, h2, h3]) hn2⟩ (by simp <;> omega) (by simp [E2]) rfl
     ·rw [misT_c hlt (by simp [conT, h1, h2, h3])]
      (refine V1 (jO h2 h3) ?_; with_reducible repeat' first|exact trivial|intro h|refine aO ?_|refine eO ?_|apply jO)
    ·rw [misT_c hlt (by simp [conT, h1, h2])]
     (refine V1 h2 ?_; with_reducible repeat' first|exact trivial|intro h|refine aO ?_|refine eO ?_|apply jO)
   ·rw [misT_c hlt (by simp [conT, h1])]
    (refine V1 h1 ?_; with_reducible repeat' first|exact trivial|intro h|refine aO ?_|refine eO ?_|apply jO)
  ·obtain rfl : i = r.cons.length := by omega
   rw [List.take_length] at hn2
   rw [misT_n hn hn2]
   (refine V0 ?_; with_reducible repeat' first|exact trivial|intro h|refine aO ?_|refine eO ?_|apply jO)
   all_goals try (exfalso; omega)
theorem w134 (g : Gram) (r : Rul) (hg : smGr g) (hr : smRu r) (hv : ∀ q ∈ r.eqs, 0 ≤ q.pos ∧ q.pos ≤ r.right.length) : Pu 134 [Gr g, Ru r] (· = B (!misT g r)) := by
 obtain ⟨m1, m2, m3, m4, m5⟩ := id hr
 refine gstart mxd i134 rfl (by simp) ?_; refine X0 ?_
 (refine V1 @XE ?_; with_reducible repeat' first|exact trivial|intro h|refine aO ?_|refine eO ?_|apply jO)
 refine wloop mxd (ι := { i : Nat // i ≤ r.eqs.length ∧ ∀ q ∈ r.eqs.take i, decide (tyE g r q.expr = (attAt g r q.pos q.name).type) = true }) (fun i => [(2, .rop 2 (Gr g)), (3, .rop 6 (Ru r)), (5, I i.1)]) (fun _ => []) (fun i => r.eqs.length - i.1) ⟨0, by simp⟩ (by simp [E2]) rfl ?_
 rintro ⟨i, hi, hn⟩
 rcases Nat.lt_or_ge i r.eqs.length with hlt | hge
 ·have hat : attAt g r r.eqs[i].pos r.eqs[i].name = fAtt (fSym g.syms (symAt r r.eqs[i].pos)).atts r.eqs[i].name := by
   unfold attAt; rw [if_pos (hv _ (List.getElem_mem hlt))]
  (refine V1 @XE ?_; with_reducible repeat' first|exact trivial|intro h|refine aO ?_|refine eO ?_|apply jO)
  all_goals try (exfalso; omega)
  refine callS.eq (w194 g r hg hr r.eqs[i].expr (m4 _ (List.getElem_mem hlt))) ?_
  (refine V1 @XE ?_; with_reducible repeat' first|exact trivial|intro h|refine aO ?_|refine eO ?_|apply jO)
  refine callS.eq (w196 r r.eqs[i].pos hr) ?_
  (refine V1 @XE ?_; with_reducible repeat' first|exact trivial|intro h|refine aO ?_|refine eO ?_|apply jO)
  refine callS.eq (w195 g _ _ hg) ?_
  rw [← hat]
  by_cases hb : tyE g r r.eqs[i].expr = (attAt g r r.eqs[i].pos r.eqs[i].name).type
  ·(refine V1 hb ?_; with_reducible repeat' first|exact trivial|intro h|refine aO ?_|refine eO ?_|apply jO)
   exact nx ⟨i + 1, by omega, takeP_step (p := fun q : Eqn => decide (tyE g r q.expr = (attAt g r q.pos q.name).type)) hlt (decide_eq_true hb) hn⟩ (by simp <;> omega) (by simp [E2]) rfl
  ·rw [misT_e hlt hb]
   (refine V1 hb ?_; with_reducible repeat' first|exact trivial|intro h|refine aO ?_|refine eO ?_|apply jO)
 ·obtain rfl : i = r.eqs.length := by omega
  rw [List.take_length] at hn
  (refine V1 @XE ?_; with_reducible repeat' first|exact trivial|intro h|refine aO ?_|refine eO ?_|apply jO)
  all_goals try (exfalso; omega)
  refine wloop mxd (ι := { i : Nat // i ≤ r.cons.length ∧ ∀ c ∈ r.cons.take i, conT g r c = false }) (fun i => [(2, .rop 2 (Gr g)), (3, .rop 6 (Ru r)), (7, I i.1)]) (fun _ => []) (fun i => r.cons.length - i.1) ⟨0, by simp⟩ (by simp [E2]) rfl ?_
  rintro ⟨i, hi, hn2⟩
  rcases Nat.lt_or_ge i r.cons.length with hlt | hge
  ·have hc := m5 _ (List.getElem_mem hlt)
   (refine V1 @XE ?_; with_reducible repeat' first|exact trivial|intro h|refine aO ?_|refine eO ?_|apply jO)
   all_goals try (exfalso; omega)
   refine callS.eq (w104 g _ hg) ?_
   (refine V1 @XE ?_; with_reducible repeat' first|exact trivial|intro h|refine aO ?_|refine eO ?_|apply jO)
   refine callS.eq (w197 _ _ (smSy_f hg _)) ?_
   by_cases h3 : (fAtt (fSym g.syms r.cons[i].sym).atts r.cons[i].name).mode = 3
   ·have h0 : hAtt (fSym g.syms r.cons[i].sym).atts r.cons[i].name = true := by
     rcases (Bool.eq_false_or_eq_true (hAtt (fSym g.syms r.cons[i].sym).atts r.cons[i].name)).symm with hh | hh
     ·rw [fAtt_no hh] at h3; simp [attZ] at h3
     ·exact hh
    (refine V1 (jO @XE (jO h0 h3)) ?_; with_reducible repeat' first|exact trivial|intro h|refine aO ?_|refine eO ?_|apply jO)
    refine callS.eq (w194 g r hg hr r.cons[i].goal hc.1) ?_
    by_cases h1 : tyE g r r.cons[i].goal = 4
    ·(refine V1 (jO @XE h1) ?_; with_reducible repeat' first|exact trivial|intro h|refine aO ?_|refine eO ?_|apply jO)
     refine callS.eq (w194 g r hg hr r.cons[i].value hc.2) ?_
     by_cases h2 : tyE g r r.cons[i].value = 2
     ·(refine V1 h2 ?_; with_reducible repeat' first|exact trivial|intro h|refine aO ?_|refine eO ?_|apply jO)
      exact nx ⟨i + 1, by omega, takeP_step (p := conT g r) hlt (by simp [conT, h1, h2, h3]) hn2⟩ (by simp <;> omega) (by simp [E2]) rfl
     ·rw [misT_c hlt (by simp [conT, h1, h2])]
      (refine V1 h2 ?_; with_reducible repeat' first|exact trivial|intro h|refine aO ?_|refine eO ?_|apply jO)
    ·rw [misT_c hlt (by simp [conT, h1])]
     (refine V1 h1 ?_; with_reducible repeat' first|exact trivial|intro h|refine aO ?_|refine eO ?_|apply jO)
   ·rw [misT_c hlt (by simp [conT, h3])]
    rcases (Bool.eq_false_or_eq_true (hAtt (fSym g.syms r.cons[i].sym).atts r.cons[i].name)).symm with hh | hh
    ·(refine V1 (jO @XE hh) ?_; with_reducible repeat' first|exact trivial|intro h|refine aO ?_|refine eO ?_|apply jO)
    ·(refine V1 (jO @XE (jO hh h3)) ?_; with_reducible repeat' first|exact trivial|intro h|refine aO ?_|refine eO ?_|apply jO)
  ·obtain rfl : i = r.cons.length := by omega
   rw [List.take_length] at hn2
   rw [misT_n hn hn2]
   (refine V0 ?_; with_reducible repeat' first|exact trivial|intro h|refine aO ?_|refine eO ?_|apply jO)
   all_goals try (exfalso; omega)
theorem w87 (g : Gram) (hs : smGr g) (hg : okGr g) : Pu 87 [Gr g] (· = .tup [I (chkG g).1, I (chkG g).2]) := by
 obtain ⟨m1, m2, m3, m4⟩ := id hs
 have hhl := hgts_len g
 refine gstart mxd i87 rfl (by simp) ?_; refine X0 ?_
 (refine V0 ?_; with_reducible repeat' first|exact trivial|intro h|refine aO ?_|refine eO ?_|apply jO)
 refine callS.eq (w145 g hs hg) ?_
 by_cases h0 : (shpC g).1 = 0
 ·have hG := shpC_ok h0
  (refine V1 h0 ?_; with_reducible repeat' first|exact trivial|intro h|refine aO ?_|refine eO ?_|apply jO)
  refine wloop mxd (ι := { i : Nat // i ≤ g.rules.length ∧ ∀ j (hj : j < g.rules.length), j < i → misT g g.rules[j] = false }) (fun i => [(1, .rop 2 (Gr g)), (20, RuS g.rules), (21, I g.rules.length), (22, I i.1)]) (fun _ => []) (fun i => g.rules.length - i.1) ⟨0, by simp⟩ (by simp [E2]) rfl ?_
  rintro ⟨i, hi, hn⟩
  rcases Nat.lt_or_ge i g.rules.length with hlt | hge
  ·(refine V0 ?_; with_reducible repeat' first|exact trivial|intro h|refine aO ?_|refine eO ?_|apply jO)
   all_goals try (exfalso; omega)
   refine callS.eq (w146 g g.rules[i] hs (m4 _ (List.getElem_mem hlt))) ?_
   rcases (Bool.eq_false_or_eq_true (misT g g.rules[i])).symm with hv | hv
   ·(refine V1 hv ?_; with_reducible repeat' first|exact trivial|intro h|refine aO ?_|refine eO ?_|apply jO)
    exact nx ⟨i + 1, by omega, fun j hj hji => by
     rcases Nat.lt_succ_iff_lt_or_eq.1 hji with e | e
     ·exact hn j hj e
     ·subst e; exact hv⟩ (by simp <;> omega) (by simp [E2]) rfl
   ·rw [chkG_2 h0 (tyF_hit hlt hv hn)]
    (refine V1 hv ?_; with_reducible repeat' first|exact trivial|intro h|refine aO ?_|refine eO ?_|apply jO)
  ·obtain rfl : i = g.rules.length := by omega
   have hty := tyF_none fun j hj => hn j hj hj
   (refine V0 ?_; with_reducible repeat' first|exact trivial|intro h|refine aO ?_|refine eO ?_|apply jO)
   all_goals try (exfalso; omega)
   refine callS.eq (w147 g hs hG.1.1.2) ?_
   (refine V1 (jO @List.length_map.{0,0} hhl) ?_; with_reducible repeat' first|exact trivial|intro h|refine aO ?_|refine eO ?_|apply jO)
   refine wloop mxd (ι := { i : Nat // i ≤ g.syms.length ∧ ∀ j, j < i → ¬ (hgts g).getD j 0 = 0 }) (fun i => [(1, .rop 2 (Gr g)), (33, IS (hgts g)), (34, I g.syms.length), (35, I i.1)]) (fun _ => []) (fun i => g.syms.length - i.1) ⟨0, by simp⟩ (by simp [E2]) rfl ?_
   rintro ⟨i, hi, hn2⟩
   rcases Nat.lt_or_ge i g.syms.length with hlt | hge
   ·have hge : (hgts g).getD i 0 = (hgts g)[i] := getD_lt (by omega)
    by_cases hz : (hgts g)[i] = 0
    ·rw [chkG_3 h0 hty (emF_hit hlt (by rw [hge, hz]) hn2)]
     (refine V1 (jO hz (jO @List.length_map.{0,0} hhl)) ?_; with_reducible repeat' first|exact trivial|intro h|refine aO ?_|refine eO ?_|apply jO)
     all_goals try (exfalso; omega)
    ·(refine V1 (jO hz (jO @List.length_map.{0,0} hhl)) ?_; with_reducible repeat' first|exact trivial|intro h|refine aO ?_|refine eO ?_|apply jO)
     all_goals try (exfalso; omega)
     exact nx ⟨i + 1, by omega, fun j hji => by
      rcases Nat.lt_succ_iff_lt_or_eq.1 hji with e | e
      ·exact hn2 j e
      ·subst e; rw [hge]; exact hz⟩ (by simp <;> omega) (by simp [E2]) rfl
   ·obtain rfl : i = g.syms.length := by omega
    rw [chkG_4 h0 hty (emF_none hn2)]
    (refine V0 ?_; with_reducible repeat' first|exact trivial|intro h|refine aO ?_|refine eO ?_|apply jO)
    all_goals try (exfalso; omega)
 ·rw [chkG_1 h0]
  (refine V1 h0 ?_; with_reducible repeat' first|exact trivial|intro h|refine aO ?_|refine eO ?_|apply jO)
theorem w75 (g : Gram) (hs : smGr g) (hg : okGr g) : Pu 75 [Gr g] (· = .tup [I (chkG g).1, I (chkG g).2]) := by
 obtain ⟨m1, m2, m3, m4⟩ := id hs
 have hhl := hgts_len g
 refine gstart mxd i75 rfl (by simp) ?_; refine X0 ?_
 (refine V0 ?_; with_reducible repeat' first|exact trivial|intro h|refine aO ?_|refine eO ?_|apply jO)
 refine callS.eq (w133 g hs hg) ?_
 by_cases h0 : (shpC g).1 = 0
 ·have hG := shpC_ok h0
  have hno := sfI_no hG.2.1
  (refine V1 h0 ?_; with_reducible repeat' first|exact trivial|intro h|refine aO ?_|refine eO ?_|apply jO)
  refine wloop mxd (ι := { i : Nat // i ≤ g.rules.length ∧ ∀ j (hj : j < g.rules.length), j < i → misT g g.rules[j] = false }) (fun i => [(1, .rop 2 (Gr g)), (6, I i.1)]) (fun _ => []) (fun i => g.rules.length - i.1) ⟨0, by simp⟩ (by simp [E2]) rfl ?_
  rintro ⟨i, hi, hn⟩
  rcases Nat.lt_or_ge i g.rules.length with hlt | hge
  ·(refine V0 ?_; with_reducible repeat' first|exact trivial|intro h|refine aO ?_|refine eO ?_|apply jO)
   all_goals try (exfalso; omega)
   refine callS.eq (w134 g g.rules[i] hs (m4 _ (List.getElem_mem hlt)) (rulV_pos (rul_ok hG.2.1 hlt))) ?_
   rcases (Bool.eq_false_or_eq_true (misT g g.rules[i])).symm with hv | hv
   ·(refine V1 hv ?_; with_reducible repeat' first|exact trivial|intro h|refine aO ?_|refine eO ?_|apply jO)
    exact nx ⟨i + 1, by omega, fun j hj hji => by
     rcases Nat.lt_succ_iff_lt_or_eq.1 hji with e | e
     ·exact hn j hj e
     ·subst e; exact hv⟩ (by simp <;> omega) (by simp [E2]) rfl
   ·rw [chkG_2 h0 (tyF_hit hlt hv hn)]
    (refine V1 hv ?_; with_reducible repeat' first|exact trivial|intro h|refine aO ?_|refine eO ?_|apply jO)
  ·obtain rfl : i = g.rules.length := by omega
   have hty := tyF_none fun j hj => hn j hj hj
   (refine V0 ?_; with_reducible repeat' first|exact trivial|intro h|refine aO ?_|refine eO ?_|apply jO)
   all_goals try (exfalso; omega)
   refine wloop mxd (ι := { i : Nat // i ≤ g.syms.length ∧ ∀ j, j < i → ¬ (hgts g).getD j 0 = 0 }) (fun i => [(1, .rop 2 (Gr g)), (7, I i.1)]) (fun _ => []) (fun i => g.syms.length - i.1) ⟨0, by simp⟩ (by simp [E2]) rfl ?_
   rintro ⟨i, hi, hn2⟩
   rcases Nat.lt_or_ge i g.syms.length with hlt | hge
   ·have hmi := minH_at hno.1 hlt
    have hnn : 0 ≤ (hgts g).getD i 0 := by
     rw [getD_lt (by omega)]; exact hgts_nn g _ (List.getElem_mem _)
    (refine V0 ?_; with_reducible repeat' first|exact trivial|intro h|refine aO ?_|refine eO ?_|apply jO)
    all_goals try (exfalso; omega)
    refine callS.eq (w135 g g.syms[i].name hs hG.1.1.2) ?_
    rw [hmi]
    by_cases hz : (hgts g).getD i 0 = 0
    ·have hp : ¬ 0 < (hgts g).getD i 0 := by omega
     rw [chkG_3 h0 hty (emF_hit hlt hz hn2), decide_eq_false hp]
     (refine V0 ?_; with_reducible repeat' first|exact trivial|intro h|refine aO ?_|refine eO ?_|apply jO)
    ·have hp : 0 < (hgts g).getD i 0 := by omega
     rw [decide_eq_true hp]
     (refine V0 ?_; with_reducible repeat' first|exact trivial|intro h|refine aO ?_|refine eO ?_|apply jO)
     exact nx ⟨i + 1, by omega, fun j hji => by
      rcases Nat.lt_succ_iff_lt_or_eq.1 hji with e | e
      ·exact hn2 j e
      ·subst e; exact hz⟩ (by simp <;> omega) (by simp [E2]) rfl
   ·obtain rfl : i = g.syms.length := by omega
    rw [chkG_4 h0 hty (emF_none hn2)]
    (refine V0 ?_; with_reducible repeat' first|exact trivial|intro h|refine aO ?_|refine eO ?_|apply jO)
    all_goals try (exfalso; omega)
 ·rw [chkG_1 h0]
  (refine V1 h0 ?_; with_reducible repeat' first|exact trivial|intro h|refine aO ?_|refine eO ?_|apply jO)
end Go.Proofs.YthnchomedekciaaGreat
