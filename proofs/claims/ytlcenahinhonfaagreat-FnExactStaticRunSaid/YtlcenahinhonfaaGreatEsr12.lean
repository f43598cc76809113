/- The law FnExactStaticRun returns true whatever the input, and the input reads behind the call as before. No condition. -/
import Derived.Test.YtlcenahinhonfaaGreatEsr11
set_option maxHeartbeats 40000000
namespace Go.Proofs.YtlcenahinhonfaaGreat
open Go.Gh
open Nat (reduceEqDiff reduceLeDiff reduceAdd reduceLT)
open Int (reduceNe)
set_option maxRecDepth 20000
set_option linter.unusedSimpArgs false
set_option linter.unusedVariables false
theorem w166 (g : Gram) (r : Rul) (hg : smGr g) (hr : smRu r) : Pu 166 [Gr g, Ru r] (· = B (misT g r)) := by
 obtain ⟨m1, m2, m3, m4, m5⟩ := id hr
 refine gstart mxd i166 rfl (by simp) ?_; refine X0 ?_
 (refine V1 @XE ?_; with_reducible repeat' first|exact trivial|intro h|refine aO ?_|refine eO ?_|apply jO)
 refine wloop mxd (ι := { i : Nat // i ≤ r.eqs.length ∧ ∀ q ∈ r.eqs.take i, decide (tyE g r q.expr = (attAt g r q.pos q.name).type) = true }) (fun i => [(2, .rop 2 (Gr g)), (3, .rop 6 (Ru r)), (16, QnS r.eqs), (17, I r.eqs.length), (18, I i.1)]) (fun _ => []) (fun i => r.eqs.length - i.1) ⟨0, by simp⟩ (by simp [E2]) rfl ?_
 rintro ⟨i, hi, hn⟩
 rcases nL i r.eqs.length with hlt | hge
 ·(refine V1 @XE ?_; with_reducible repeat' first|exact trivial|intro h|refine aO ?_|refine eO ?_|apply jO)
  all_goals try exact oF
  refine callS.eq (w212 g r (r.eqs[i].pos, r.eqs[i].name) hg hr) ?_
  (refine V1 @XE ?_; with_reducible repeat' first|exact trivial|intro h|refine aO ?_|refine eO ?_|apply jO)
  refine callS.eq (w213 g r hg hr r.eqs[i].expr (m4 _ (gM hlt))) ?_
  by_cases hb : tyE g r r.eqs[i].expr = (attAt g r r.eqs[i].pos r.eqs[i].name).type
  ·(refine V1 hb ?_; with_reducible repeat' first|exact trivial|intro h|refine aO ?_|refine eO ?_|apply jO)
   exact nx ⟨i + 1, by omega, takeP_step (p := fun q : Eqn => decide (tyE g r q.expr = (attAt g r q.pos q.name).type)) hlt (decide_eq_true hb) hn⟩ (by simp <;> omega) (by simp [E2]) rfl
  ·rw [misT_e hlt hb]
   (refine V1 hb ?_; with_reducible repeat' first|exact trivial|intro h|refine aO ?_|refine eO ?_|apply jO)
 ·obtain rfl : i = r.eqs.length := by omega
  rw [List.take_length] at hn
  (refine V1 @XE ?_; with_reducible repeat' first|exact trivial|intro h|refine aO ?_|refine eO ?_|apply jO)
  all_goals try exact oF
  refine wloop mxd (ι := { i : Nat // i ≤ r.cons.length ∧ ∀ c ∈ r.cons.take i, conT g r c = false }) (fun i => [(2, .rop 2 (Gr g)), (3, .rop 6 (Ru r)), (40, CoS r.cons), (41, I r.cons.length), (42, I i.1)]) (fun _ => []) (fun i => r.cons.length - i.1) ⟨0, by simp⟩ (by simp [E2]) rfl ?_
  rintro ⟨i, hi, hn2⟩
  rcases nL i r.cons.length with hlt | hge
  ·have hc := m5 _ (gM hlt)
   (refine V1 @XE ?_; with_reducible repeat' first|exact trivial|intro h|refine aO ?_|refine eO ?_|apply jO)
   all_goals try exact oF
   refine callS.eq (w71 g _ hg) ?_
   (refine V1 @XE ?_; with_reducible repeat' first|exact trivial|intro h|refine aO ?_|refine eO ?_|apply jO)
   refine callS.eq (w175 _ _ (smSy_f hg _)) ?_
   (refine V1 @XE ?_; with_reducible repeat' first|exact trivial|intro h|refine aO ?_|refine eO ?_|apply jO)
   refine callS.eq (w213 g r hg hr r.cons[i].goal hc.1) ?_
   by_cases h1 : tyE g r r.cons[i].goal = 4
   ·(refine V1 (jO @XE h1) ?_; with_reducible repeat' first|exact trivial|intro h|refine aO ?_|refine eO ?_|apply jO)
    refine callS.eq (w213 g r hg hr r.cons[i].value hc.2) ?_
    by_cases h2 : tyE g r r.cons[i].value = 2
    ·by_cases h3 : (fAtt (fSym g.syms r.cons[i].sym).atts r.cons[i].name).mode = 3
     ·(refine V1 (jO h2 h3) ?_; with_reducible repeat' first|exact trivial|intro h|refine aO ?_|refine eO ?_|apply jO)
      exact nx ⟨i + 1, by omega, takeP_step (p := conT g r) hlt (by simp [conT, h1, h2, h3]) hn2⟩ (by simp <;> omega) (by simp [E2]) rfl
     ·rw [misT_c hlt (by simp [conT, h1, h2, h3])]
      (refine V1 (jO h2 h3) ?_; with_reducible repeat' first|exact trivial|intro h|refine aO ?_|refine eO ?_|apply jO)
    ·rw [misT_c hlt (by simp [conT, h1, h2])]
     (refine V1 h2 ?_; with_reducible repeat' first|exact trivial|intro h|refine aO ?_|refine eO ?_|apply jO)
   ·rw [misT_c hlt (by simp [conT, h1])]
    (refine V1 h1 ?_; with_reducible repeat' first|exact trivial|intro h|refine aO ?_|refine eO ?_|apply jO)
  ·obtain rfl : i = r.cons.length := by omega
   rw [List.take_length] at hn2
   rw [misT_n hn hn2]
   (refine V0 ?_; with_reducible repeat' first|exact trivial|intro h|refine aO ?_|refine eO ?_|apply jO)
   all_goals try exact oF
theorem w149 (g : Gram) (r : Rul) (hg : smGr g) (hr : smRu r) (hv : ∀ q ∈ r.eqs, 0 ≤ q.pos ∧ q.pos ≤ r.right.length) : Pu 149 [Gr g, Ru r] (· = B (!misT g r)) := by
 obtain ⟨m1, m2, m3, m4, m5⟩ := id hr
 refine gstart mxd i149 rfl (by simp) ?_; refine X0 ?_
 (refine V1 @XE ?_; with_reducible repeat' first|exact trivial|intro h|refine aO ?_|refine eO ?_|apply jO)
 refine wloop mxd (ι := { i : Nat // i ≤ r.eqs.length ∧ ∀ q ∈ r.eqs.take i, decide (tyE g r q.expr = (attAt g r q.pos q.name).type) = true }) (fun i => [(2, .rop 2 (Gr g)), (3, .rop 6 (Ru r)), (5, I i.1)]) (fun _ => []) (fun i => r.eqs.length - i.1) ⟨0, by simp⟩ (by simp [E2]) rfl ?_
 rintro ⟨i, hi, hn⟩
 rcases nL i r.eqs.length with hlt | hge
 ·have hat : attAt g r r.eqs[i].pos r.eqs[i].name = fAtt (fSym g.syms (symAt r r.eqs[i].pos)).atts r.eqs[i].name := by
   unfold attAt; rw [if_pos (hv _ (gM hlt))]
  (refine V1 @XE ?_; with_reducible repeat' first|exact trivial|intro h|refine aO ?_|refine eO ?_|apply jO)
  all_goals try exact oF
  refine callS.eq (w190 g r hg hr r.eqs[i].expr (m4 _ (gM hlt))) ?_
  (refine V1 @XE ?_; with_reducible repeat' first|exact trivial|intro h|refine aO ?_|refine eO ?_|apply jO)
  refine callS.eq (w192 r r.eqs[i].pos hr) ?_
  (refine V1 @XE ?_; with_reducible repeat' first|exact trivial|intro h|refine aO ?_|refine eO ?_|apply jO)
  refine callS.eq (w191 g _ _ hg) ?_
  rw [← hat]
  by_cases hb : tyE g r r.eqs[i].expr = (attAt g r r.eqs[i].pos r.eqs[i].name).type
  ·(refine V1 hb ?_; with_reducible repeat' first|exact trivial|intro h|refine aO ?_|refine eO ?_|apply jO)
   exact nx ⟨i + 1, by omega, takeP_step (p := fun q : Eqn => decide (tyE g r q.expr = (attAt g r q.pos q.name).type)) hlt (decide_eq_true hb) hn⟩ (by simp <;> omega) (by simp [E2]) rfl
  ·rw [misT_e hlt hb]
   (refine V1 hb ?_; with_reducible repeat' first|exact trivial|intro h|refine aO ?_|refine eO ?_|apply jO)
 ·obtain rfl : i = r.eqs.length := by omega
  rw [List.take_length] at hn
  (refine V1 @XE ?_; with_reducible repeat' first|exact trivial|intro h|refine aO ?_|refine eO ?_|apply jO)
  all_goals try exact oF
  refine wloop mxd (ι := { i : Nat // i ≤ r.cons.length ∧ ∀ c ∈ r.cons.take i, conT g r c = false }) (fun i => [(2, .rop 2 (Gr g)), (3, .rop 6 (Ru r)), (7, I i.1)]) (fun _ => []) (fun i => r.cons.length - i.1) ⟨0, by simp⟩ (by simp [E2]) rfl ?_
  rintro ⟨i, hi, hn2⟩
  rcases nL i r.cons.length with hlt | hge
  ·have hc := m5 _ (gM hlt)
   (refine V1 @XE ?_; with_reducible repeat' first|exact trivial|intro h|refine aO ?_|refine eO ?_|apply jO)
   all_goals try exact oF
   refine callS.eq (w43 g _ hg) ?_
   (refine V1 @XE ?_; with_reducible repeat' first|exact trivial|intro h|refine aO ?_|refine eO ?_|apply jO)
   refine callS.eq (w153 _ _ (smSy_f hg _)) ?_
   by_cases h3 : (fAtt (fSym g.syms r.cons[i].sym).atts r.cons[i].name).mode = 3
   ·have h0 : hAtt (fSym g.syms r.cons[i].sym).atts r.cons[i].name = true := by
     rcases bC (hAtt (fSym g.syms r.cons[i].sym).atts r.cons[i].name) with hh | hh
     ·rw [fAtt_no hh] at h3; simp [attZ] at h3
     ·exact hh
    (refine V1 (jO @XE (jO h0 h3)) ?_; with_reducible repeat' first|exact trivial|intro h|refine aO ?_|refine eO ?_|apply jO)
    refine callS.eq (w190 g r hg hr r.cons[i].goal hc.1) ?_
    by_cases h1 : tyE g r r.cons[i].goal = 4
    ·(refine V1 (jO @XE h1) ?_; with_reducible repeat' first|exact trivial|intro h|refine aO ?_|refine eO ?_|apply jO)
     refine callS.eq (w190 g r hg hr r.cons[i].value hc.2) ?_
     by_cases h2 : tyE g r r.cons[i].value = 2
     ·(refine V1 h2 ?_; with_reducible repeat' first|exact trivial|intro h|refine aO ?_|refine eO ?_|apply jO)
      exact nx ⟨i + 1, by omega, takeP_step (p := conT g r) hlt (by simp [conT, h1, h2, h3]) hn2⟩ (by simp <;> omega) (by simp [E2]) rfl
     ·rw [misT_c hlt (by simp [conT, h1, h2])]
      (refine V1 h2 ?_; with_reducible repeat' first|exact trivial|intro h|refine aO ?_|refine eO ?_|apply jO)
    ·rw [misT_c hlt (by simp [conT, h1])]
     (refine V1 h1 ?_; with_reducible repeat' first|exact trivial|intro h|refine aO ?_|refine eO ?_|apply jO)
   ·rw [misT_c hlt (by simp [conT, h3])]
    rcases bC (hAtt (fSym g.syms r.cons[i].sym).atts r.cons[i].name) with hh | hh
    ·(refine V1 (jO @XE hh) ?_; with_reducible repeat' first|exact trivial|intro h|refine aO ?_|refine eO ?_|apply jO)
    ·(refine V1 (jO @XE (jO hh h3)) ?_; with_reducible repeat' first|exact trivial|intro h|refine aO ?_|refine eO ?_|apply jO)
  ·obtain rfl : i = r.cons.length := by omega
   rw [List.take_length] at hn2
   rw [misT_n hn hn2]
   (refine V0 ?_; with_reducible repeat' first|exact trivial|intro h|refine aO ?_|refine eO ?_|apply jO)
   all_goals try exact oF
theorem w116 (g : Gram) (hs : smGr g) (hg : okGr g) : Pu 116 [Gr g] (· = .tup [I (chkG g).1, I (chkG g).2]) := by
 obtain ⟨m1, m2, m3, m4⟩ := id hs
 have hhl := hgts_len g
 refine gstart mxd i116 rfl (by simp) ?_; refine X0 ?_
 (refine V0 ?_; with_reducible repeat' first|exact trivial|intro h|refine aO ?_|refine eO ?_|apply jO)
 refine callS.eq (w165 g hs hg) ?_
 by_cases h0 : (shpC g).1 = 0
 ·have hG := shpC_ok h0
  (refine V1 h0 ?_; with_reducible repeat' first|exact trivial|intro h|refine aO ?_|refine eO ?_|apply jO)
  refine wloop mxd (ι := { i : Nat // i ≤ g.rules.length ∧ ∀ j (hj : j < g.rules.length), j < i → misT g g.rules[j] = false }) (fun i => [(1, .rop 2 (Gr g)), (20, RuS g.rules), (21, I g.rules.length), (22, I i.1)]) (fun _ => []) (fun i => g.rules.length - i.1) ⟨0, by simp⟩ (by simp [E2]) rfl ?_
  rintro ⟨i, hi, hn⟩
  rcases nL i g.rules.length with hlt | hge
  ·(refine V0 ?_; with_reducible repeat' first|exact trivial|intro h|refine aO ?_|refine eO ?_|apply jO)
   all_goals try exact oF
   refine callS.eq (w166 g g.rules[i] hs (m4 _ (gM hlt))) ?_
   rcases bC (misT g g.rules[i]) with hv | hv
   ·(refine V1 hv ?_; with_reducible repeat' first|exact trivial|intro h|refine aO ?_|refine eO ?_|apply jO)
    exact nx ⟨i + 1, by omega, fun j hj hji => by
     rcases Nat.lt_succ_iff_lt_or_eq.1 hji with e | e
     ·exact hn j hj e
     ·subst e; exact hv⟩ (by simp <;> omega) (by simp [E2]) rfl
   ·rw [chkG_2 h0 (tyF_hit hlt hv hn)]
    (refine V1 hv ?_; with_reducible repeat' first|exact trivial|intro h|refine aO ?_|refine eO ?_|apply jO)
  ·obtain rfl : i = g.rules.length := by omega
   have hty := tyF_none fun j hj => hn j hj hj
   (refine V0 ?_; with_reducible repeat' first|exact trivial|intro h|refine aO ?_|refine eO ?_|apply jO)
   all_goals try exact oF
   refine callS.eq (w167 g hs hG.1.1.2) ?_
   (refine V1 (jO @List.length_map.{0,0} hhl) ?_; with_reducible repeat' first|exact trivial|intro h|refine aO ?_|refine eO ?_|apply jO)
   refine wloop mxd (ι := { i : Nat // i ≤ g.syms.length ∧ ∀ j, j < i → ¬ (hgts g).getD j 0 = 0 }) (fun i => [(1, .rop 2 (Gr g)), (33, IS (hgts g)), (34, I g.syms.length), (35, I i.1)]) (fun _ => []) (fun i => g.syms.length - i.1) ⟨0, by simp⟩ (by simp [E2]) rfl ?_
   rintro ⟨i, hi, hn2⟩
   rcases nL i g.syms.length with hlt | hge
   ·have hge : (hgts g).getD i 0 = (hgts g)[i] := getD_lt (by omega)
    by_cases hz : (hgts g)[i] = 0
    ·rw [chkG_3 h0 hty (emF_hit hlt (by rw [hge, hz]) hn2)]
     (refine V1 (jO hz (jO @List.length_map.{0,0} hhl)) ?_; with_reducible repeat' first|exact trivial|intro h|refine aO ?_|refine eO ?_|apply jO)
     all_goals try exact oF
    ·(refine V1 (jO hz (jO @List.length_map.{0,0} hhl)) ?_; with_reducible repeat' first|exact trivial|intro h|refine aO ?_|refine eO ?_|apply jO)
     all_goals try exact oF
     exact nx ⟨i + 1, by omega, fun j hji => by
      rcases Nat.lt_succ_iff_lt_or_eq.1 hji with e | e
      ·exact hn2 j e
      ·subst e; rw [hge]; exact hz⟩ (by simp <;> omega) (by simp [E2]) rfl
   ·obtain rfl : i = g.syms.length := by omega
    rw [chkG_4 h0 hty (emF_none hn2)]
    (refine V0 ?_; with_reducible repeat' first|exact trivial|intro h|refine aO ?_|refine eO ?_|apply jO)
    all_goals try exact oF
 ·rw [chkG_1 h0]
  (refine V1 h0 ?_; with_reducible repeat' first|exact trivial|intro h|refine aO ?_|refine eO ?_|apply jO)
theorem w94 (g : Gram) (hs : smGr g) (hg : okGr g) : Pu 94 [Gr g] (· = .tup [I (chkG g).1, I (chkG g).2]) := by
 obtain ⟨m1, m2, m3, m4⟩ := id hs
 have hhl := hgts_len g
 refine gstart mxd i94 rfl (by simp) ?_; refine X0 ?_
 (refine V0 ?_; with_reducible repeat' first|exact trivial|intro h|refine aO ?_|refine eO ?_|apply jO)
 refine callS.eq (w148 g hs hg) ?_
 by_cases h0 : (shpC g).1 = 0
 ·have hG := shpC_ok h0
  have hno := sfI_no hG.2.1
  (refine V1 h0 ?_; with_reducible repeat' first|exact trivial|intro h|refine aO ?_|refine eO ?_|apply jO)
  refine wloop mxd (ι := { i : Nat // i ≤ g.rules.length ∧ ∀ j (hj : j < g.rules.length), j < i → misT g g.rules[j] = false }) (fun i => [(1, .rop 2 (Gr g)), (6, I i.1)]) (fun _ => []) (fun i => g.rules.length - i.1) ⟨0, by simp⟩ (by simp [E2]) rfl ?_
  rintro ⟨i, hi, hn⟩
  rcases nL i g.rules.length with hlt | hge
  ·(refine V0 ?_; with_reducible repeat' first|exact trivial|intro h|refine aO ?_|refine eO ?_|apply jO)
   all_goals try exact oF
   refine callS.eq (w149 g g.rules[i] hs (m4 _ (gM hlt)) (rulV_pos (rul_ok hG.2.1 hlt))) ?_
   rcases bC (misT g g.rules[i]) with hv | hv
   ·(refine V1 hv ?_; with_reducible repeat' first|exact trivial|intro h|refine aO ?_|refine eO ?_|apply jO)
    exact nx ⟨i + 1, by omega, fun j hj hji => by
     rcases Nat.lt_succ_iff_lt_or_eq.1 hji with e | e
     ·exact hn j hj e
     ·subst e; exact hv⟩ (by simp <;> omega) (by simp [E2]) rfl
   ·rw [chkG_2 h0 (tyF_hit hlt hv hn)]
    (refine V1 hv ?_; with_reducible repeat' first|exact trivial|intro h|refine aO ?_|refine eO ?_|apply jO)
  ·obtain rfl : i = g.rules.length := by omega
   have hty := tyF_none fun j hj => hn j hj hj
   (refine V0 ?_; with_reducible repeat' first|exact trivial|intro h|refine aO ?_|refine eO ?_|apply jO)
   all_goals try exact oF
   refine wloop mxd (ι := { i : Nat // i ≤ g.syms.length ∧ ∀ j, j < i → ¬ (hgts g).getD j 0 = 0 }) (fun i => [(1, .rop 2 (Gr g)), (7, I i.1)]) (fun _ => []) (fun i => g.syms.length - i.1) ⟨0, by simp⟩ (by simp [E2]) rfl ?_
   rintro ⟨i, hi, hn2⟩
   rcases nL i g.syms.length with hlt | hge
   ·have hmi := minH_at hno.1 hlt
    have hnn : 0 ≤ (hgts g).getD i 0 := by
     rw [getD_lt (by omega)]; exact hgts_nn g _ (gM _)
    (refine V0 ?_; with_reducible repeat' first|exact trivial|intro h|refine aO ?_|refine eO ?_|apply jO)
    all_goals try exact oF
    refine callS.eq (w150 g g.syms[i].name hs hG.1.1.2) ?_
    rw [hmi]
    by_cases hz : (hgts g).getD i 0 = 0
    ·have hp : ¬ 0 < (hgts g).getD i 0 := by omega
     rw [chkG_3 h0 hty (emF_hit hlt hz hn2), decide_eq_false hp]
     (refine V0 ?_; with_reducible repeat' first|exact trivial|intro h|refine aO ?_|refine eO ?_|apply jO)
    ·have hp : 0 < (hgts g).getD i 0 := by omega
     rw [decide_eq_true hp]
     (refine V0 ?_; with_reducible repeat' first|exact trivial|intro h|refine aO ?_|refine eO ?_|apply jO)
     exact nx ⟨i + 1, by omega, fun j hji => by
      rcases Nat.lt_succ_iff_lt_or_eq.1 hji with e | e
      ·exact hn2 j e
      ·subst e; exact hz⟩ (by simp <;> omega) (by simp [E2]) rfl
   ·obtain rfl : i = g.syms.length := by omega
    rw [chkG_4 h0 hty (emF_none hn2)]
    (refine V0 ?_; with_reducible repeat' first|exact trivial|intro h|refine aO ?_|refine eO ?_|apply jO)
    all_goals try exact oF
 ·rw [chkG_1 h0]
  (refine V1 h0 ?_; with_reducible repeat' first|exact trivial|intro h|refine aO ?_|refine eO ?_|apply jO)
theorem w171 (e : Exp) : Pu 171 [Ex e] (· = B (!decide (e.kind = 8))) := by
 refine gstart mxd i171 rfl (by simp) ?_; refine X0 ?_
 (refine V1 @XE ?_; with_reducible repeat' first|exact trivial|intro h|refine aO ?_|refine eO ?_|apply jO)
theorem w121 (e : Exp) : Pu 121 [Ex e] (· = B (!nrE e)) := by
 refine gstart mxd i121 rfl (by simp) ?_; refine X0 ?_
 (refine V1 @XE ?_; with_reducible repeat' first|exact trivial|intro h|refine aO ?_|refine eO ?_|apply jO)
 refine callS.eq (w170 171 [] (fun x => !decide (x.kind = 8)) (fun _ => True) (fun _ _ _ _ => trivial) (fun x _ => w171 x) e trivial) ?_
 (refine V0 ?_; with_reducible repeat' first|exact trivial|intro h|refine aO ?_|refine eO ?_|apply jO)
 rfl
theorem w118 (r : Rul) (hr : smRu r) : Pu 118 [Ru r] (· = B (remR r)) := by
 refine gstart mxd i118 rfl (by simp) ?_; refine X0 ?_
 (refine V0 ?_; with_reducible repeat' first|exact trivial|intro h|refine aO ?_|refine eO ?_|apply jO)
 refine callS.eq (w120 r hr) ?_
 (refine V0 ?_; with_reducible repeat' first|exact trivial|intro h|refine aO ?_|refine eO ?_|apply jO)
 refine callS.eq (w119 (expR r) 121 [] (fun e => !nrE e) fun x hx => w121 x) ?_
 (refine V0 ?_; with_reducible repeat' first|exact trivial|intro h|refine aO ?_|refine eO ?_|apply jO)
 rfl
theorem w65 (g : Gram) (hg : smGr g) : Pu 65 [Gr g] (· = B (g.rules.any remR)) := by
 refine gstart mxd i65 rfl (by simp) ?_; refine X0 ?_
 (refine V0 ?_; with_reducible repeat' first|exact trivial|intro h|refine aO ?_|refine eO ?_|apply jO)
 refine callS.eq (w117 g.rules 118 [] remR fun x hx => w118 x (hg.2.2.2 x hx)) ?_
 (refine V0 ?_; with_reducible repeat' first|exact trivial|intro h|refine aO ?_|refine eO ?_|apply jO)
theorem w67 (a : Att) : Pu 67 [At a] (· = B (decide (a.mode = 3))) := by
 refine gstart mxd i67 rfl (by simp) ?_; refine X0 ?_
 (refine V0 ?_; with_reducible repeat' first|exact trivial|intro h|refine aO ?_|refine eO ?_|apply jO)
theorem w68 (a : Att) : Pu 68 [At a] (· = B a.circ) := by
 refine gstart mxd i68 rfl (by simp) ?_; refine X0 ?_
 (refine V0 ?_; with_reducible repeat' first|exact trivial|intro h|refine aO ?_|refine eO ?_|apply jO)
theorem w123 (s : Sym) (f : Nat) (p : Att → Bool) (hp : ∀ a, Pu f [At a] (· = B (p a))) : Pu 123 [Sy s, .rop 1 (.clo f [])] (· = B (s.atts.any p)) := by
 refine gstart mxd i123 rfl (by simp) ?_; refine X0 ?_
 (refine V0 ?_; with_reducible repeat' first|exact trivial|intro h|refine aO ?_|refine eO ?_|apply jO)
 refine callS.eq (w124 s.atts f [] p fun x hx => hp x) ?_
 (refine V0 ?_; with_reducible repeat' first|exact trivial|intro h|refine aO ?_|refine eO ?_|apply jO)
theorem w66 (g : Gram) (f : Nat) (p : Att → Bool) (hp : ∀ a, Pu f [At a] (· = B (p a))) : Pu 66 [Gr g, .clo f []] (· = B (hasA g p)) := by
 refine gstart mxd i66 rfl (by simp) ?_; refine X0 ?_
 ((try refine qI ?_); (repeat ((first | with_reducible refine qU ?_ | simp only [brGen]); try simp (maxSteps := 9^7) +contextual only [↓ S2, S2, ↓reduceIte, reduceNe, reduceEqDiff, reduceCtorEq, reduceLeDiff, reduceAdd, reduceLT, VQ, gs_clo])); (try simp +contextual (disch := omega) only [Z2, gs_clo]); (with_reducible repeat' (first | intro h | refine And.intro (by omega) ?_ | refine exP (by omega) ?_ | apply And.intro)))
 refine callS.eq (w122 g.syms 123 [.rop 1 (.clo f [])] (fun s => s.atts.any p) fun x hx => w123 x f p hp) ?_
 (refine V0 ?_; with_reducible repeat' first|exact trivial|intro h|refine aO ?_|refine eO ?_|apply jO)
 rfl
theorem w64 (g : Gram) (hs : smGr g) (hg : okGr g) : Pu 64 [Gr g] (· = B (accG g)) := by
 refine gstart mxd i64 rfl (by simp) ?_; refine X0 ?_
 (refine V0 ?_; with_reducible repeat' first|exact trivial|intro h|refine aO ?_|refine eO ?_|apply jO)
 refine callS.eq (w116 g hs hg) ?_
 (refine V0 ?_; with_reducible repeat' first|exact trivial|intro h|refine aO ?_|refine eO ?_|apply jO)
 rfl
theorem w30 (g : Gram) (hs : smGr g) (hg : okGr g) : Pu 30 [Gr g] (· = B (staS g)) := by
 rw [← staI_eq]
 unfold staI
 refine gstart mxd i30 rfl (by simp) ?_; refine X0 ?_
 (refine V0 ?_; with_reducible repeat' first|exact trivial|intro h|refine aO ?_|refine eO ?_|apply jO)
 refine callS.eq (w64 g hs hg) ?_
 rcases bC (accG g) with h1 | h1
 ·rw [h1]
  (refine V1 @Bool.false_and ?_; with_reducible repeat' first|exact trivial|intro h|refine aO ?_|refine eO ?_|apply jO)
 ·rw [h1]
  (refine V0 ?_; with_reducible repeat' first|exact trivial|intro h|refine aO ?_|refine eO ?_|apply jO)
  refine callS.eq (w65 g hs) ?_
  rcases bC (g.rules.any remR) with h2 | h2
  ·rw [h2]
   (refine V0 ?_; with_reducible repeat' first|exact trivial|intro h|refine aO ?_|refine eO ?_|apply jO)
   refine callS.eq (w66 g 67 _ w67) ?_
   rcases bC (hasA g fun a => decide (a.mode = 3)) with h3 | h3
   ·rw [h3]
    (refine V1 @Bool.false_and ?_; with_reducible repeat' first|exact trivial|intro h|refine aO ?_|refine eO ?_|apply jO)
    refine callS.eq (w66 g 68 _ w68) ?_
    (refine V0 ?_; with_reducible repeat' first|exact trivial|intro h|refine aO ?_|refine eO ?_|apply jO)
   ·rw [h3]
    (refine V1 @Bool.false_and ?_; with_reducible repeat' first|exact trivial|intro h|refine aO ?_|refine eO ?_|apply jO)
  ·rw [h2]
   (refine V1 @Bool.false_and ?_; with_reducible repeat' first|exact trivial|intro h|refine aO ?_|refine eO ?_|apply jO)
theorem w93 : ∀ (e : Exp), wEx e ≤ 1048576 → Pu 93 [Ex e] (· = B (!nrE e)) := by
 refine Exp.indA fun e ih hw => ?_
 obtain ⟨hl, ha⟩ := args_small hw
 refine gstart mxd i93 rfl (by simp) ?_; refine X0 ?_
 (refine V1 @XE ?_; with_reducible repeat' first|exact trivial|intro h|refine aO ?_|refine eO ?_|apply jO)
 refine wloop mxd (ι := { i : Nat // i ≤ e.args.length ∧ ∀ a ∈ e.args.take i, nrE a = true }) (fun i => [(1, .rop 7 (Ex e)), (3, I i.1)]) (fun _ => []) (fun i => e.args.length - i.1) ⟨0, by simp⟩ (by simp [E2]) rfl ?_
 rintro ⟨i, hi, hn⟩
 rcases nL i e.args.length with hlt | hge
 ·(refine V1 @XE ?_; with_reducible repeat' first|exact trivial|intro h|refine aO ?_|refine eO ?_|apply jO)
  all_goals try exact oF
  refine callS.eq (ih _ (gM hlt) (ha _ (gM hlt))) ?_
  rcases bC (nrE e.args[i]) with hv | hv
  ·rw [nrE_arg hlt hv]
   (refine V1 hv ?_; with_reducible repeat' first|exact trivial|intro h|refine aO ?_|refine eO ?_|apply jO)
  ·(refine V1 hv ?_; with_reducible repeat' first|exact trivial|intro h|refine aO ?_|refine eO ?_|apply jO)
   exact nx ⟨i + 1, by omega, takeP_step hlt hv hn⟩ (by simp <;> omega) (by simp [E2]) rfl
 ·obtain rfl : i = e.args.length := by omega
  rw [List.take_length] at hn
  rw [nrE_end hn]
  (refine V1 @XE ?_; with_reducible repeat' first|exact trivial|intro h|refine aO ?_|refine eO ?_|apply jO)
  all_goals try exact oF
theorem w46 (r : Rul) (hr : smRu r) : Pu 46 [Ru r] (· = B (remQ r)) := by
 obtain ⟨m1, m2, m3, m4, m5⟩ := hr
 refine gstart mxd i46 rfl (by simp) ?_; refine X0 ?_
 (refine V0 ?_; with_reducible repeat' first|exact trivial|intro h|refine aO ?_|refine eO ?_|apply jO)
 refine wloop mxd (ι := { i : Nat // i ≤ r.eqs.length ∧ ∀ q ∈ r.eqs.take i, (!nrE q.expr) = false }) (fun i => [(1, .rop 6 (Ru r)), (3, I i.1)]) (fun _ => []) (fun i => r.eqs.length - i.1) ⟨0, by simp⟩ (by simp [E2]) rfl ?_
 rintro ⟨i, hi, hn⟩
 rcases nL i r.eqs.length with hlt | hge
 ·(refine V1 @XE ?_; with_reducible repeat' first|exact trivial|intro h|refine aO ?_|refine eO ?_|apply jO)
  all_goals try exact oF
  refine callS.eq (w93 r.eqs[i].expr (m4 _ (gM hlt))) ?_
  rcases bC (nrE r.eqs[i].expr) with hv | hv
  ·have : remQ r = true := any_yes (p := fun q : Eqn => !nrE q.expr) hlt (by rw [hv]; rfl)
   rw [this]
   (refine V1 hv ?_; with_reducible repeat' first|exact trivial|intro h|refine aO ?_|refine eO ?_|apply jO)
  ·(refine V1 hv ?_; with_reducible repeat' first|exact trivial|intro h|refine aO ?_|refine eO ?_|apply jO)
   exact nx ⟨i + 1, by omega, takeP_step (p := fun q : Eqn => !nrE q.expr) hlt (by rw [hv]; rfl) hn⟩ (by simp <;> omega) (by simp [E2]) rfl
 ·obtain rfl : i = r.eqs.length := by omega
  rw [List.take_length] at hn
  have : remQ r = false := any_no (p := fun q : Eqn => !nrE q.expr) hn
  rw [this]
  (refine V0 ?_; with_reducible repeat' first|exact trivial|intro h|refine aO ?_|refine eO ?_|apply jO)
  all_goals try exact oF
theorem w47 (g : Gram) (hs : smGr g) (hg : okGr g) : Pu 47 [Gr g] (· = B (accG g)) := by
 refine gstart mxd i47 rfl (by simp) ?_; refine X0 ?_
 (refine V0 ?_; with_reducible repeat' first|exact trivial|intro h|refine aO ?_|refine eO ?_|apply jO)
 refine callS.eq (w94 g hs hg) ?_
 (refine V0 ?_; with_reducible repeat' first|exact trivial|intro h|refine aO ?_|refine eO ?_|apply jO)
 rfl
theorem w22 (g : Gram) (hs : smGr g) (hg : okGr g) : Pu 22 [Gr g] (· = B (staS g)) := by
 obtain ⟨m1, m2, m3, m4⟩ := id hs
 refine gstart mxd i22 rfl (by simp) ?_; refine X0 ?_
 (refine V0 ?_; with_reducible repeat' first|exact trivial|intro h|refine aO ?_|refine eO ?_|apply jO)
 refine wloop mxd (ι := { i : Nat // i ≤ g.syms.length ∧ ∀ s ∈ g.syms.take i, (s.atts.all fun a => !(a.circ || decide (a.mode = 3))) = true }) (fun i => [(1, .rop 2 (Gr g)), (3, I i.1)]) (fun _ => []) (fun i => g.syms.length - i.1) ⟨0, by simp⟩ (by simp [E2]) rfl ?_
 rintro ⟨i, hi, hn⟩
 rcases nL i g.syms.length with hlt | hge
 ·have hal := m3 _ (gM hlt)
  unfold smSy at hal
  (refine V0 ?_; with_reducible repeat' first|exact trivial|intro h|refine aO ?_|refine eO ?_|apply jO)
  all_goals try exact oF
  refine wloop mxd (ι := { j : Nat // j ≤ g.syms[i].atts.length ∧ ∀ a ∈ g.syms[i].atts.take j, (!(a.circ || decide (a.mode = 3))) = true }) (fun j => [(1, .rop 2 (Gr g)), (3, I i), (4, I j.1)]) (fun _ => []) (fun j => g.syms[i].atts.length - j.1) ⟨0, by simp⟩ (by simp [E2]) rfl ?_
  rintro ⟨j, hj, hn2⟩
  rcases nL j g.syms[i].atts.length with hlt2 | hge2
  ·have hno := noA_no hlt hlt2
   rcases (Bool.eq_false_or_eq_true g.syms[i].atts[j].circ).symm with hv | hv
   ·by_cases hw : g.syms[i].atts[j].mode = 3
    ·have : staS g = false := by unfold staS; rw [hno (by simp [hv, hw])]; rfl
     rw [this]
     (refine V1 (jO hv hw) ?_; with_reducible repeat' first|exact trivial|intro h|refine aO ?_|refine eO ?_|apply jO)
     all_goals try exact oF
    ·(refine V1 (jO hv hw) ?_; with_reducible repeat' first|exact trivial|intro h|refine aO ?_|refine eO ?_|apply jO)
     all_goals try exact oF
     exact nx ⟨j + 1, by omega, takeP_step (p := fun a : Att => !(a.circ || decide (a.mode = 3))) hlt2 (by simp [hv, hw]) hn2⟩ (by simp <;> omega) (by simp [E2]) rfl
   ·have : staS g = false := by unfold staS; rw [hno (by simp [hv])]; rfl
    rw [this]
    (refine V1 hv ?_; with_reducible repeat' first|exact trivial|intro h|refine aO ?_|refine eO ?_|apply jO)
    all_goals try exact oF
  ·obtain rfl : j = g.syms[i].atts.length := by omega
   rw [List.take_length] at hn2
   (refine V0 ?_; with_reducible repeat' first|exact trivial|intro h|refine aO ?_|refine eO ?_|apply jO)
   all_goals try exact oF
   exact nx ⟨i + 1, by omega, takeP_step (p := fun s : Sym => s.atts.all fun a => !(a.circ || decide (a.mode = 3))) hlt (all_yes hn2) hn⟩ (by simp <;> omega) (by simp [E2]) rfl
 ·obtain rfl : i = g.syms.length := by omega
  rw [List.take_length] at hn
  have hna : noA g = true := all_yes hn
  unfold staS
  rw [hna, Bool.true_and]
  (refine V0 ?_; with_reducible repeat' first|exact trivial|intro h|refine aO ?_|refine eO ?_|apply jO)
  all_goals try exact oF
  refine wloop mxd (ι := { i : Nat // i ≤ g.rules.length ∧ ∀ r ∈ g.rules.take i, remQ r = false }) (fun i => [(1, .rop 2 (Gr g)), (6, I i.1)]) (fun _ => []) (fun i => g.rules.length - i.1) ⟨0, by simp⟩ (by simp [E2]) rfl ?_
  rintro ⟨i, hi, hn2⟩
  rcases nL i g.rules.length with hlt | hge
  ·(refine V0 ?_; with_reducible repeat' first|exact trivial|intro h|refine aO ?_|refine eO ?_|apply jO)
   all_goals try exact oF
   refine callS.eq (w46 g.rules[i] (m4 _ (gM hlt))) ?_
   rcases bC (remQ g.rules[i]) with hv | hv
   ·(refine V1 hv ?_; with_reducible repeat' first|exact trivial|intro h|refine aO ?_|refine eO ?_|apply jO)
    exact nx ⟨i + 1, by omega, takeP_step hlt hv hn2⟩ (by simp <;> omega) (by simp [E2]) rfl
   ·rw [any_yes hlt hv]
    (refine V1 (jO hv @Bool.false_and) ?_; with_reducible repeat' first|exact trivial|intro h|refine aO ?_|refine eO ?_|apply jO)
  ·obtain rfl : i = g.rules.length := by omega
   rw [List.take_length] at hn2
   rw [any_no hn2]
   (refine V0 ?_; with_reducible repeat' first|exact trivial|intro h|refine aO ?_|refine eO ?_|apply jO)
   all_goals try exact oF
   refine callS.eq (w47 g hs hg) ?_
   (refine V0 ?_; with_reducible repeat' first|exact trivial|intro h|refine aO ?_|refine eO ?_|apply jO)
end Go.Proofs.YtlcenahinhonfaaGreat
