/- The law FnExactStaticRun returns true whatever the input, and the input reads behind the call as before. No condition. -/
import Derived.Test.YtlcenahinhonfaaGreatEsr5
set_option maxHeartbeats 40000000
namespace Go.Proofs.YtlcenahinhonfaaGreat
open Go.Gh
open Nat (reduceEqDiff reduceLeDiff reduceAdd reduceLT)
open Int (reduceNe)
set_option maxRecDepth 20000
set_option linter.unusedSimpArgs false
set_option linter.unusedVariables false
theorem w197 (e : Exp) (hl : e.args.length ≤ 1048576) (ho : okE e) : Pu 197 [Ex e] (· = B (nodeV e)) := by
 obtain ⟨hs, hm, _⟩ := okE_eq.1 ho
 have hk : e.kind = 1 ∨ e.kind = 2 ∨ e.kind = 3 ∨ e.kind = 4 ∨ e.kind = 5 ∨ e.kind = 6 ∨ e.kind = 7 ∨ e.kind = 8 ∨ (¬ (1 ≤ e.kind ∧ e.kind ≤ 8)) := by omega
 rcases hk with hk | hk | hk | hk | hk | hk | hk | hk | hk
 all_goals
  refine gstart mxd i197 rfl (by simp) ?_; refine X0 ?_
  (repeat' (first | (with_reducible refine callS.eq (w50 _ _ _) ?_) | (with_reducible refine callS.eq (w238 e hl) ?_) | (with_reducible refine callS.eq (w96 _ _) ?_) | (with_reducible refine callS.eq (w239 _ hs) ?_) | (with_reducible refine callS.eq (w239 _ hm) ?_) | simp (maxSteps := 9^7) only [↓ S2, S2, vIte, ↓reduceIte, reduceNe, reduceEqDiff, reduceCtorEq, reduceLeDiff, reduceAdd, reduceLT, XE, hk] | simp only [brGen] | simp +contextual (disch := omega) only [Z2] | with_reducible first | intro h | refine And.intro (by omega) ?_ | refine exP (by omega) ?_ | apply And.intro))
  all_goals try exact oF
  all_goals first
   | (simp_all [nodeV]; done)
   | (simp_all [nodeV]; intros; omega)
   | (congr 2; rw [Bool.eq_iff_iff]; simp [nodeV, hk, *]; done)
theorem w156 : ∀ e : Exp, okE e → wEx e ≤ 1048576 → Pu 156 [Ex e] (· = B (allE nodeV e)) := by
 refine Exp.indA fun e ih ho hw => ?_
 obtain ⟨hl, ha⟩ := args_small hw
 obtain ⟨_, _, hoa⟩ := okE_eq.1 ho
 refine gstart mxd i156 rfl (by simp) ?_; refine X0 ?_
 simp (maxSteps := 9^7) only [↓ S2, S2, vIte, ↓reduceIte, reduceNe, reduceEqDiff, reduceCtorEq, reduceLeDiff, reduceAdd, reduceLT, XE]
 refine wloop mxd (ι := { i : Nat // i ≤ e.args.length ∧ ∀ a ∈ e.args.take i, allE nodeV a = true }) (fun i => [(1, .rop 7 (Ex e)), (3, I i.1)]) (fun _ => []) (fun i => e.args.length - i.1) ⟨0, by simp⟩ (by simp [E2]) rfl ?_
 rintro ⟨i, hi, hn⟩
 rcases nL i e.args.length with hlt | hge
 ·(repeat' (first | (with_reducible refine callS.eq (ih _ (gM hlt) (hoa _ (gM hlt)) (ha _ (gM hlt))) ?_) | simp (maxSteps := 9^7) only [↓ S2, S2, vIte, ↓reduceIte, reduceNe, reduceEqDiff, reduceCtorEq, reduceLeDiff, reduceAdd, reduceLT, XE] | simp only [brGen] | simp +contextual (disch := omega) only [Z2] | with_reducible first | intro h | refine And.intro (by omega) ?_ | refine exP (by omega) ?_ | apply And.intro))
  all_goals try exact oF
  ·exact nx ⟨i + 1, by omega, all_take hlt (by assumption) hn⟩ (by simp; omega) (by simp [E2]) rfl
  ·rw [allE_no hlt (by assumption)]
 ·have : i = e.args.length := by omega
  subst this
  rw [tL (Nat.le_refl _)] at hn
  rw [allE_yes hn]
  (repeat' (first | (with_reducible refine callS.eq (w197 e hl ho) ?_) | simp (maxSteps := 9^7) only [↓ S2, S2, vIte, ↓reduceIte, reduceNe, reduceEqDiff, reduceCtorEq, reduceLeDiff, reduceAdd, reduceLT, XE] | simp only [brGen] | simp +contextual (disch := omega) only [Z2] | with_reducible first | intro h | refine And.intro (by omega) ?_ | refine exP (by omega) ?_ | apply And.intro))
theorem w101 (e : Exp) (ho : okE e) (hw : wEx e ≤ 1048576) : Pu 101 [Ex e] (· = B (validE e)) := by
 have hc := cntE_le e
 have hd := dpE_le e
 refine gstart mxd i101 rfl (by simp) ?_; refine X0 ?_
 (repeat' (first | (with_reducible refine callS.eq (w154 e hw _ (by omega) (by omega)) ?_) | (with_reducible refine callS.eq (w155 e hw) ?_) | (with_reducible refine callS.eq (w156 e ho hw) ?_) | simp (maxSteps := 9^7) only [↓ S2, S2, vIte, ↓reduceIte, reduceNe, reduceEqDiff, reduceCtorEq, reduceLeDiff, reduceAdd, reduceLT, XE] | simp only [brGen] | simp +contextual (disch := omega) only [Z2] | with_reducible first | intro h | refine And.intro (by omega) ?_ | refine exP (by omega) ?_ | apply And.intro))
 all_goals (simp only [validE])
 all_goals first
  | (rw [decide_eq_true (show cntE e ≤ 24 by omega), decide_eq_true (show dpE e ≤ 6 by omega)]; rfl)
  | (rw [decide_eq_false (show ¬ cntE e ≤ 24 by omega)]; rfl)
  | (rw [decide_eq_false (show ¬ dpE e ≤ 6 by omega), Bool.and_false]; rfl)
theorem Tryz.dec_j {p : Prop} {i : Decidable p} : (@decide p i = true) = p := propext ⟨of_decide_eq_true, decide_eq_true⟩
theorem w180 (e : Exp) (hl : e.args.length ≤ 1048576) (ho : okE e) : Pu 180 [Ex e] (· = B (nodeV e)) := by
  obtain ⟨hs, hm, _⟩ := okE_eq.1 ho
  refine Pure.bor ?_
  have hl1 : ((e.args.length : Int) = 1) = (e.args.length = 1) := propext (by omega)
  have hl2 : ((e.args.length : Int) = 2) = (e.args.length = 2) := propext (by omega)
  have hl3 : ((e.args.length : Int) = 3) = (e.args.length = 3) := propext (by omega)
  have hk : e.kind = 1 ∨ e.kind = 2 ∨ e.kind = 3 ∨ e.kind = 4 ∨ e.kind = 5 ∨ e.kind = 6 ∨ e.kind = 7 ∨ e.kind = 8 ∨ (¬ e.kind = 1 ∧ ¬ e.kind = 2 ∧ ¬ e.kind = 3 ∧ ¬ e.kind = 4 ∧ ¬ e.kind = 5 ∧ ¬ e.kind = 6 ∧ ¬ e.kind = 7 ∧ ¬ e.kind = 8) := by omega
  rcases hk with hk | hk | hk | hk | hk | hk | hk | hk | hk
  all_goals
    refine gstart mxd i180 rfl (by simp) ?_; refine X0 ?_
    (repeat' (first | (with_reducible refine callS.eq (w111 _ _ _) ?_) | (with_reducible refine callS.eq (w216 _ _) ?_) | (with_reducible refine callS.eq (w217 _ hs) ?_) | (with_reducible refine callS.eq (w217 _ hm) ?_) | (with_reducible refine callS.eq (w218 e _ _ _ _ _ _ _) ?_) | simp (maxSteps := 9^7) only [↓ S2, S2, vIte, ↓reduceIte, reduceNe, reduceEqDiff, reduceCtorEq, reduceLeDiff, reduceAdd, reduceLT, XE, hk] | simp only [brGen] | simp +contextual (disch := omega) only [Z2] | with_reducible first | intro h | refine And.intro (by omega) ?_ | refine exP (by omega) ?_ | apply And.intro))
    all_goals try exact oF
    all_goals refine .of_eq ?_
    all_goals first
      | (simp_all [nodeV, bareV, arity, noS_eq]; done)
      | (simp_all [nodeV, bareV, arity, noS_eq]; intros; omega)
      | (have hr := okV_rng (show okV e.n e.type = true by assumption)
         congr 2
         rw [Bool.eq_iff_iff]
         try simp only [Bool.and_eq_true, Tryz.dec_j]
         try simp only [noS_eq]
         simp [nodeV, bareV, arity, hk]
         try (constructor <;> intro hh <;> (try simp_all) <;> (try omega)))
      | (congr 2
         rw [Bool.eq_iff_iff]
         try simp only [Bool.and_eq_true, Tryz.dec_j]
         try simp only [noS_eq]
         simp [nodeV, bareV, arity, hk]
         try (constructor <;> intro hh <;> (try simp_all) <;> (try omega)))
theorem w133 (e : Exp) (ho : okE e) (hw : wEx e ≤ 1048576) : Pu 133 [Ex e] (· = B (validE e)) := by
 have hc := cntE_le e
 have hd := dpE_le e
 have hev := w170 180 [] nodeV (fun e => okE e ∧ wEx e ≤ 1048576) (fun e h a ha => ⟨(okE_eq.1 h.1).2.2 a ha, (args_small h.2).2 a ha⟩) (fun x h => w180 x (args_small h.2).1 h.1) e ⟨ho, hw⟩
 refine gstart mxd i133 rfl (by simp) ?_; refine X0 ?_
 (repeat' (first | (with_reducible refine callS.eq (w178 e hw) ?_) | (with_reducible refine callS.eq (w179 e hw) ?_) | (with_reducible refine callS.eq (hev) ?_) | simp (maxSteps := 9^7) only [↓ S2, S2, vIte, ↓reduceIte, reduceNe, reduceEqDiff, reduceCtorEq, reduceLeDiff, reduceAdd, reduceLT, XE] | simp only [brGen] | simp +contextual (disch := omega) only [Z2] | with_reducible first | intro h | refine And.intro (by omega) ?_ | refine exP (by omega) ?_ | apply And.intro))
 all_goals (simp only [validE])
 all_goals first
  | (rw [decide_eq_true (show cntE e ≤ 24 by omega), decide_eq_true (show dpE e ≤ 6 by omega)]; rfl)
  | (rw [decide_eq_false (show ¬ cntE e ≤ 24 by omega)]; rfl)
  | (rw [decide_eq_false (show ¬ dpE e ≤ 6 by omega), Bool.and_false]; rfl)
theorem w114 (l : List Int) (x : Int) : Pu 114 [IS l, I x] (· = I (ixOf (fun y => decide (y = x)) l)) := by
 refine GCalls.lenA fun hl => ?_
 have hlen := hl.1.1
 simp only [List.length_map, maxL] at hlen
 refine gstart mxd i114 rfl (by simp) ?_; refine X0 ?_
 refine wloop mxd (ι := { i : Nat // i ≤ l.length ∧ ∀ y ∈ l.take i, decide (y = x) = false }) (fun i => [(0, IS l), (1, I x), (7, I l.length), (8, I i.1)]) (fun _ => []) (fun i => l.length - i.1) ⟨0, by simp⟩ (by simp [E2]) rfl ?_
 rintro ⟨i, hi, hn⟩
 (refine R0 ?_; with_reducible repeat' first|exact trivial|intro h|refine aO ?_|refine eO ?_|apply jO)
 ·subst h
  rw [ixOf_hit (p := fun y => decide (y = l[i])) (by assumption) (by simp) hn]
 ·exact nx ⟨i + 1, by omega, take_step (by assumption) (by simpa [eq_comm] using h) hn⟩ (by simp; omega) (by simp [E2]) rfl
 ·have : i = l.length := by omega
  subst this
  rw [tL (Nat.le_refl _)] at hn
  rw [ixOf_none hn]
theorem w61 (l : List Int) (x : Int) : Pu 61 [IS l, I x] (· = B (decide (0 ≤ ixOf (fun y => decide (y = x)) l))) := by
 refine gstart mxd i61 rfl (by simp) ?_; refine X0 ?_
 (with_reducible repeat' first|refine callS.eq (w114 l x) ?_|exact trivial|refine aO ?_|refine eO ?_|apply jO|refine K0 ?_|intro h)
theorem w102 (sl : List Slo) (lit : Int) (ids : List Int) (hi : ids.length ≤ 1048576) : ∀ e : Exp, allE nodeV e = true → Pu 102 [Ex e, SltS sl, I lit, IS ids] (· = I (evE sl lit ids e)) := by
 refine Exp.indA fun e ih hv => ?_
 obtain ⟨hn, ha⟩ := allE_args hv
 have hp := nodeV_pos hn
 have har := nodeV_args hn
 rw [evE_eq]
 have hk : e.kind = 1 ∨ e.kind = 2 ∨ e.kind = 3 ∨ e.kind = 4 ∨ e.kind = 5 ∨ e.kind = 6 ∨ (¬ e.kind = 1 ∧ ¬ e.kind = 2 ∧ ¬ e.kind = 3 ∧ ¬ e.kind = 4 ∧ ¬ e.kind = 5 ∧ ¬ e.kind = 6) := by omega
 rcases hk with hk | hk | hk | hk | hk | hk | hk
 all_goals
  simp [arity, hk] at har
  refine gstart mxd i102 rfl (by simp) ?_; refine X0 ?_
  (with_reducible repeat' first|refine callS.eq (w157 sl (e.pos, e.name)) ?_|refine callS.eq (ih _ (gM _) (ha _ (gM _))) ?_|refine callS.eq (w158 _ _ _) ?_|refine callS.eq (w50 _ _ _) ?_|exact trivial|refine aO ?_|refine eO ?_|apply jO|refine K1 (jO @XE hk) ?_|intro h)
  all_goals try exact oF
  all_goals simp only [evK, hk, Int.reduceEq, reduceIte]
  all_goals first
   | rfl
   | (rw [getDm (by omega), getDm (by omega)]; rfl)
   | (rw [getDm (by omega), if_pos (by assumption), getDm (by omega)]; rfl)
   | (rw [getDm (by omega), if_neg (by assumption), getDm (by omega)]; rfl)
   | (rw [if_pos (by omega), getD_lt (by omega)]; done)
   | (rw [if_neg (by omega)]; done)
theorem w134 (sl : List Slo) (o : Int × ByteArray) : Pu 134 [Occ o, .rop 1 (SltS sl)] (· = I (slotValue sl o)) := by
 refine gstart mxd i134 rfl (by simp) ?_; refine X0 ?_
 (with_reducible repeat' first|refine callS.eq (w135 sl o) ?_|exact trivial|refine aO ?_|refine eO ?_|apply jO|refine K0 ?_|intro h)
theorem w136 (n : Int) (e : Exp) : Pu 136 [I n, Ex e] (· = I 0) := by
 refine gstart mxd i136 rfl (by simp) ?_; refine X0 ?_
 (refine R1 @XE ?_; with_reducible repeat' first|exact trivial|intro h|refine aO ?_|refine eO ?_|apply jO)
theorem w137 (sl : List Slo) (lit : Int) (ids : List Int) (hi : ids.length ≤ 1048576) : ∀ e : Exp, allE nodeV e = true → Pu 137 [.agg [.clo 134 [.rop 1 (SltS sl)], .clo 136 [], I lit, IS ids], Ex e] (· = I (evE sl lit ids e)) := by
 refine Exp.indA fun e ih hv => ?_
 obtain ⟨hn, ha⟩ := allE_args hv
 have hp := nodeV_pos hn
 have har := nodeV_args hn
 rw [evE_eq]
 have hk : e.kind = 1 ∨ e.kind = 2 ∨ e.kind = 3 ∨ e.kind = 4 ∨ e.kind = 5 ∨ e.kind = 6 ∨ e.kind = 8 ∨ (¬ e.kind = 1 ∧ ¬ e.kind = 2 ∧ ¬ e.kind = 3 ∧ ¬ e.kind = 4 ∧ ¬ e.kind = 5 ∧ ¬ e.kind = 6 ∧ ¬ e.kind = 8) := by omega
 rcases hk with hk | hk | hk | hk | hk | hk | hk | hk
 all_goals
  simp [arity, hk] at har
  refine gstart mxd i137 rfl (by simp) ?_; refine X0 ?_
  (with_reducible repeat' first|refine callS.eq (w134 sl (e.pos, e.name)) ?_|refine callS.eq (w136 _ e) ?_|refine callS.eq (ih _ (gM _) (ha _ (gM _))) ?_|refine callS.eq (w181 _ _ _) ?_|exact trivial|refine aO ?_|refine eO ?_|apply jO|refine K1 (jO @XE hk) ?_|intro h)
  all_goals try exact oF
  all_goals simp only [evK, hk, Int.reduceEq, reduceIte]
  all_goals first
   | rfl
   | (rw [getDm (by omega), getDm (by omega)]; rfl)
   | (rw [getDm (by omega), if_pos (by assumption), getDm (by omega)]; rfl)
   | (rw [getDm (by omega), if_neg (by assumption), getDm (by omega)]; rfl)
   | (rw [if_pos (by omega), getD_lt (by omega)]; done)
   | (rw [if_neg (by omega)]; done)
theorem w53 (e : Exp) (sl : List Slo) (lit : Int) (ids : List Int) (ho : okE e) (hw : wEx e ≤ 1048576) (hi : ids.length ≤ 1048576) : Pu 53 [Ex e, SltS sl, I lit, IS ids] (· = I (if validE e then evE sl lit ids e else 0)) := by
 refine gstart mxd i53 rfl (by simp) ?_; refine X0 ?_
 simp (maxSteps := 9^7) only [↓ S2, S2, vIte, ↓reduceIte, reduceNe, reduceEqDiff, reduceCtorEq, reduceLeDiff, reduceAdd, reduceLT, XE]
 refine callS.eq (w101 e ho hw) ?_
 by_cases hv : validE e = true
 ·have hv' := hv
  simp only [validE, Bool.and_eq_true] at hv'
  (with_reducible repeat' first|refine callS.eq (w102 sl lit ids hi e hv'.2) ?_|exact trivial|refine aO ?_|refine eO ?_|apply jO|refine K1 (jO @XE hv) ?_|intro h)
 ·simp only [Bool.not_eq_true] at hv
  (with_reducible repeat' first|refine callS.eq (w50 _ _ _) ?_|exact trivial|refine aO ?_|refine eO ?_|apply jO|refine K1 (jO @XE hv) ?_|intro h)
theorem w73 (e : Exp) (sl : List Slo) (lit : Int) (ids : List Int) (ho : okE e) (hw : wEx e ≤ 1048576) (hi : ids.length ≤ 1048576) : Pu 73 [Ex e, SltS sl, I lit, IS ids] (· = I (if validE e then evE sl lit ids e else 0)) := by
 refine gstart mxd i73 rfl (by simp) ?_; refine X0 ?_
 simp (maxSteps := 9^7) only [↓ S2, S2, vIte, ↓reduceIte, reduceNe, reduceEqDiff, reduceCtorEq, reduceLeDiff, reduceAdd, reduceLT, XE]
 refine callS.eq (w133 e ho hw) ?_
 by_cases hv : validE e = true
 ·have hv' := hv
  simp only [validE, Bool.and_eq_true] at hv'
  (repeat' (first | (with_reducible refine callS.eq (w137 sl lit ids hi e hv'.2) ?_) | simp (maxSteps := 9^7) only [↓ S2, S2, vIte, ↓reduceIte, reduceNe, reduceEqDiff, reduceCtorEq, reduceLeDiff, reduceAdd, reduceLT, XE, hv, upd_nf, stor_nf, gs_clo, cells_nf] | simp only [brGen] | simp +contextual (disch := omega) only [Z2] | with_reducible first | intro h | refine And.intro (by omega) ?_ | refine exP (by omega) ?_ | apply And.intro))
 ·simp only [Bool.not_eq_true] at hv
  (with_reducible repeat' first|refine callS.eq (w111 _ _ _) ?_|exact trivial|refine aO ?_|refine eO ?_|apply jO|refine K1 (jO @XE hv) ?_|intro h)
theorem o55 (t : List Nod) (i : Int) (hl : t.length ≤ 1048576) (hx : ∀ x ∈ t, x.kids.length ≤ 1048576) (H : GH) : Gc 55 [Tr t, I i] H (fun g H' => ∃ H1, (∃ r, g = .own r 1 0 (nodeIds t i).length ∧ H1 = [(r, 1, (nodeIds t i).map I)]) ∧ H' = H1 ++ H) := by
 refine gstart mxd i55 rfl (by simp) ?_; refine X0 ?_
 intro r hr
 refine callS.eq (w50 _ _ _) ?_
 by_cases hi0 : 0 ≤ i ∧ i ≤ (t.length : Int) - 1
 ·obtain ⟨i, rfl⟩ : ∃ k : Nat, i = k := ⟨i.toNat, by omega⟩
  have hi : i < t.length := by omega
  have hk := hx _ (gM hi)
  rw [nodeIds_in hi]
  (refine R1 hi0 ?_; with_reducible repeat' first|exact trivial|intro h|refine aO ?_|refine eO ?_|apply jO)
  rename_i r2
  have hne : r2 ≠ r := ne_of_new h hget_new
  (refine R1 (jO (hgO hne) (hdO hne)) ?_; with_reducible repeat' first|exact trivial|intro h|refine aO ?_|refine eO ?_|apply jO)
  rename_i r3
  have hne3 : r3 ≠ r2 := ne_of_new h hget_new
  refine wloopF mxd (ι := { x : Nat × Nat // x.2 ≤ t[i].kids.length }) (fun x => [(2, .rop 1 (Tr t)), (1, I i), (5, .own x.1.1 1 0 (idsAt t ((i : Int) :: t[i].kids.take x.1.2)).length), (6, I x.1.2)]) (fun x => (x.1.1, 1, (idsAt t ((i : Int) :: t[i].kids.take x.1.2)).map I) :: H) (fun x => t[i].kids.length - x.1.2) ⟨(r3, 0), by simp⟩ (FE.drop (r := r2) (by rw [hget_old hne3, hget_new])) ?_ ?_ ?_
  ·simp [E2, idsAt, hi]
  ·rw [hdel_old hne3, hdel_new]
   simp [idsAt, hi]
  ·rintro ⟨⟨q, j⟩, hj⟩ hnd
   dsimp only at hj hnd ⊢
   have hle := idsAt_len t ((i : Int) :: t[i].kids.take j)
   simp only [List.length_cons, List.length_take] at hle
   refine gwp_ok mxd ?_
   (refine R0 ?_; with_reducible repeat' first|exact trivial|intro h|refine aO ?_|refine eO ?_|apply jO)
   ·refine callS.eq (w50 _ _ _) ?_
    (refine R0 ?_; with_reducible repeat' first|exact trivial|intro h|refine aO ?_|refine eO ?_|apply jO)
    ·rename_i q2
     have hneq : q2 ≠ q := ne_of_new h hget_new
     (refine R1 (jO (hgO hneq) (jO (hdO hneq) (jO @List.length_append.{0} (jO @List.length_singleton.{0} (jO @List.take_length.{0} @maxLv))))) ?_; with_reducible repeat' first|exact trivial|intro h|refine aO ?_|refine eO ?_|apply jO)
     rename_i q3
     have hq3 : q3 ≠ q2 := ne_of_new h hget_new
     have e := idsAt_snoc_in (t := t) (l := (i : Int) :: t[i].kids.take j) (k := t[i].kids[j]) (by omega) (by omega)
     refine nxF ⟨(q3, j + 1), by omega⟩ (by simp; omega) (FE.drop (r := q2) (by rw [hget_old hq3, hget_new])) ?_ ?_
     ·show subE _ [(2, .rop 1 (Tr t)), (1, I i), (5, .own q3 1 0 (idsAt t ((i : Int) :: t[i].kids.take (j + 1))).length), (6, I ((j + 1 : Nat) : Int))]
      rw [take_cons_step (by omega), e]
      simp [E2]
     ·show _ = (q3, 1, (idsAt t ((i : Int) :: t[i].kids.take (j + 1))).map I) :: H
      rw [hdel_old hq3, hdel_new, take_cons_step (by omega), e, tL (by simp)]
      simp
    ·have e := idsAt_snoc_out (t := t) (l := (i : Int) :: t[i].kids.take j) (k := t[i].kids[j]) (by omega)
     refine nx ⟨(q, j + 1), by omega⟩ (by simp; omega) ?_ ?_
     ·show subE _ [(2, .rop 1 (Tr t)), (1, I i), (5, .own q 1 0 (idsAt t ((i : Int) :: t[i].kids.take (j + 1))).length), (6, I ((j + 1 : Nat) : Int))]
      rw [take_cons_step (by omega), e]
      simp [E2]
     ·show _ = (q, 1, (idsAt t ((i : Int) :: t[i].kids.take (j + 1))).map I) :: H
      rw [take_cons_step (by omega), e]
   ·have : j = t[i].kids.length := by omega
    subst this
    rw [List.take_length]
    exact ⟨_, ⟨q, rfl, rfl⟩, rfl⟩
  all_goals first | (exfalso; omega) | skip
 ·have e : nodeIds t i = [] := by simp only [nodeIds]; rw [if_neg (by omega)]
  rw [e]
  (refine R1 hi0 ?_; with_reducible repeat' first|exact trivial|intro h|refine aO ?_|refine eO ?_|apply jO)
  exact ⟨_, ⟨r, rfl, rfl⟩, rfl⟩
theorem o75 (t : List Nod) (i : Int) (hl : t.length ≤ 1048576) (hx : ∀ x ∈ t, x.kids.length ≤ 1048576) (H : GH) : Gc 75 [Tr t, I i] H (fun g H' => ∃ H1, (∃ r, g = .own r 1 0 (nodeIds t i).length ∧ H1 = [(r, 1, (nodeIds t i).map I)]) ∧ H' = H1 ++ H) := by
 have h0 : Gc 75 [Tr t, I i] H (fun g H' => ∃ r, g = .own r 1 0 (nodeIds t i).length ∧ (H' = (r, 1, (nodeIds t i).map I) :: H ∨ ∃ r3 e, r ≠ r3 ∧ H' = (r, 1, (nodeIds t i).map I) :: (r3, 1, e) :: H)) := by
  refine gstart mxd i75 rfl (by simp) ?_; refine X0 ?_
  intro r hr
  refine callS.eq (w128 _ _) ?_
  by_cases hi0 : 0 ≤ i ∧ i < (t.length : Int)
  ·obtain ⟨i, rfl⟩ : ∃ k : Nat, i = k := ⟨i.toNat, by omega⟩
   have hi : i < t.length := by omega
   have hk := hx _ (gM hi)
   rw [nodeIds_in hi]
   (refine R1 (jO hi0 @maxLv) ?_; with_reducible repeat' first|exact trivial|intro h|refine aO ?_|refine eO ?_|apply jO)
   rename_i r2 h2 r3
   have hne : r2 ≠ r := ne_of_new h2 hget_new
   have hne3 : r3 ≠ r := ne_of_new h hget_new
   have he : (GV.val (.int .i64 (i : Int))) :: t[i].kids.map I = ((i : Int) :: t[i].kids).map I := rfl
   rw [he]
   have hlc : ((i : Int) :: t[i].kids).length = 1 + t[i].kids.length := by simp; omega
   generalize ((i : Int) :: t[i].kids) = ks at hlc ⊢
   rw [← hlc]
   clear he h
   refine wloopF mxd (ι := { x : Nat × Nat // x.2 ≤ ks.length ∧ x.1 ≠ r3 }) (fun x => [(2, .rop 1 (Tr t)), (22, .own r3 1 0 ks.length), (23, I ks.length), (5, .own x.1.1 1 0 (idsAt t (ks.take x.1.2)).length), (24, I x.1.2)]) (fun x => (x.1.1, 1, (idsAt t (ks.take x.1.2)).map I) :: (r3, 1, ks.map I) :: H) (fun x => ks.length - x.1.2) ⟨(r, 0), by omega, Ne.symm hne3⟩ (FE.swap) ?_ ?_ ?_
   ·simp [E2, idsAt]
   ·simp [idsAt]
   ·rintro ⟨⟨q, j⟩, hj, hq⟩ hnd
    dsimp only at hj hq hnd ⊢
    have hle := idsAt_len t (ks.take j)
    simp only [List.length_take] at hle
    refine gwp_ok mxd ?_
    (refine R1 (hgO hq) ?_; with_reducible repeat' first|exact trivial|intro h|refine aO ?_|refine eO ?_|apply jO)
    ·refine callS.eq (w128 _ _) ?_
     (refine R1 (hgO hq) ?_; with_reducible repeat' first|exact trivial|intro h|refine aO ?_|refine eO ?_|apply jO)
     ·rename_i q2
      have hneq : q2 ≠ q := ne_of_new h hget_new
      (refine R1 (jO (hgO hneq) (jO (hdO hneq) (jO @List.length_append.{0} (jO @List.length_singleton.{0} @maxLv)))) ?_; with_reducible repeat' first|exact trivial|intro h|refine aO ?_|refine eO ?_|apply jO)
      rename_i q3
      have hq3 : q3 ≠ q2 := ne_of_new h hget_new
      have hq4 : q3 ≠ r3 := by
       simp only [names, List.map_cons, List.nodup_cons, List.mem_cons, not_or] at h
       exact h.1.2.1
      have e := idsAt_snoc_in (t := t) (l := ks.take j) (k := ks[j]) (by omega) (by omega)
      refine nxF ⟨(q3, j + 1), by omega, hq4⟩ (by simp; omega) (FE.drop (r := q2) (by rw [hget_old hq3, hget_new])) ?_ ?_
      ·show subE _ [(2, .rop 1 (Tr t)), (22, .own r3 1 0 ks.length), (23, I ks.length), (5, .own q3 1 0 (idsAt t (ks.take (j + 1))).length), (24, I ((j + 1 : Nat) : Int))]
       rw [take_step' (by omega), e]
       simp [E2]
      ·show _ = (q3, 1, (idsAt t (ks.take (j + 1))).map I) :: (r3, 1, ks.map I) :: H
       rw [hdel_old hq3, hdel_new, take_step' (by omega), e, tL (by simp)]
       simp
     ·have e := idsAt_snoc_out (t := t) (l := ks.take j) (k := ks[j]) (by omega)
      refine nx ⟨(q, j + 1), by omega, hq⟩ (by simp; omega) ?_ ?_
      ·show subE _ [(2, .rop 1 (Tr t)), (22, .own r3 1 0 ks.length), (23, I ks.length), (5, .own q 1 0 (idsAt t (ks.take (j + 1))).length), (24, I ((j + 1 : Nat) : Int))]
       rw [take_step' (by omega), e]
       simp [E2]
      ·show _ = (q, 1, (idsAt t (ks.take (j + 1))).map I) :: (r3, 1, ks.map I) :: H
       rw [take_step' (by omega), e]
    ·have : j = ks.length := by omega
     subst this
     rw [List.take_length]
     exact ⟨q, rfl, .inr ⟨r3, _, hq, rfl⟩⟩
  ·have e : nodeIds t i = [] := by simp only [nodeIds]; rw [if_neg (by omega)]
   rw [e]
   (refine R1 hi0 ?_; with_reducible repeat' first|exact trivial|intro h|refine aO ?_|refine eO ?_|apply jO)
   exact ⟨r, rfl, .inl rfl⟩
 refine h0.fr ?_
 rintro g H' ⟨r, rfl, rfl | ⟨r3, e, hne, rfl⟩⟩
 ·exact ⟨_, _, FR.refl _ _, _, ⟨r, rfl, rfl⟩, rfl⟩
 ·exact ⟨_, _, FR.drop (r := r3) (by rw [hget_old hne, hget_new]), _, ⟨r, rfl, rfl⟩, by rw [hdel_old hne, hdel_new]; rfl⟩
theorem w266 (a b : Oc) : Pu 266 [Occ a, Occ b] (· = B (ltO a b)) := by
 refine gstart mxd i266 rfl (by simp) ?_; refine X0 ?_
 (refine R0 ?_; with_reducible repeat' first|exact trivial|intro h|refine aO ?_|refine eO ?_|apply jO)
 ·simp [ltO, h]
 ·rename_i h0
  simp only [ltO, decide_eq_false h0, decide_eq_true h, Bool.false_or, Bool.true_and]
  rfl
 ·rename_i h0
  simp [ltO, h0, h]
theorem w226 (l : List Oc) (o : Oc) (hl : l.length ≤ 4194304) : Pu 226 [OcS l, Occ o] (· = OcS (putO l o)) := by
 refine Pure.bor ?_
 refine gstart mxd i226 rfl (by simp) ?_; refine X0 ?_
 refine wloop mxd (ι := { i : Nat // i ≤ l.length ∧ ∀ a ∈ l.take i, ltO a o = true }) (fun i => [(0, OcS l), (3, .rop 2 (Occ o)), (5, I i.1)]) (fun _ => []) (fun i => l.length - i.1) ⟨0, by simp⟩ (by simp [E2]) rfl ?_
 rintro ⟨i, hi, hp⟩
 have hsl : (l.take i).length = i := by simp; omega
 rcases nL i l.length with h | h
 ·(refine V1 @XE ?_; with_reducible repeat' first|exact trivial|intro h|refine aO ?_|refine eO ?_|apply jO)
  all_goals try exact oF
  refine callS.eq (w266 _ _) ?_
  by_cases hb : ltO l[i] o = true
  ·(refine V1 hb ?_; with_reducible repeat' first|exact trivial|intro h|refine aO ?_|refine eO ?_|apply jO)
   exact nx ⟨i + 1, by omega, take_all_step (p := fun a => ltO a o) h hb hp⟩ (by simp; omega) (by simp [E2]) rfl
  ·have hb' : ltO l[i] o = false := by simpa using hb
   have ha : atO l o = i := atO_of hi hp (fun _ => hb')
   have hpt : putO l o = if l[i] = o then l else l.take i ++ o :: l.drop i := by
    simp only [putO, ha, List.getElem?_eq_getElem h, Option.some.injEq]
   by_cases he : l[i] = o
   ·have he1 : l[i].1 = o.1 := by rw [he]
    have he2 : l[i].2 = o.2 := by rw [he]
    (refine V1 (jO hb' (jO he1 he2)) ?_; with_reducible repeat' first|exact trivial|intro h|refine aO ?_|refine eO ?_|apply jO)
    all_goals try exact oF
    rw [hpt, if_pos he]
    exact .refl
   ·rw [hpt, if_neg he]
    (refine V1 (jO hb' (jO @List.length_append.{0} (jO @List.length_singleton.{0} (jO @List.length_map.{0,0} (jO @List.length_take.{0} (jO @List.length_drop.{0} @maxLv)))))) ?_; with_reducible repeat' first|exact trivial|intro h|refine aO ?_|refine eO ?_|apply jO)
    all_goals first
     | (exfalso; exact he (Prod.ext (by assumption) (by assumption)))
     | (rw [putM hi, putN (o := o) hi]; exact Bor.allM (fun _ => rfl) hget_new rfl)
     | (exfalso; omega)
 ·have hil : i = l.length := by omega
  have ha : atO l o = i := atO_of hi hp (fun h => absurd h (by omega))
  have hpt : putO l o = l.take i ++ o :: l.drop i := by
   simp only [putO, ha, List.getElem?_eq_none (by omega : l.length ≤ i)]
   rfl
  rw [hpt]
  have hni : ¬ i < l.length := by omega
  ((try refine qI ?_); (repeat ((first | with_reducible refine qU ?_ | simp only [brGen]); try simp (maxSteps := 9^7) +contextual only [↓ S2, S2, ↓reduceIte, reduceNe, reduceEqDiff, reduceCtorEq, reduceLeDiff, reduceAdd, reduceLT, VQ, hni, List.length_append, List.length_singleton, List.length_map, List.length_take, List.length_drop, maxLv])); (try simp +contextual (disch := omega) only [Z2, hni, List.length_append, List.length_singleton, List.length_map, List.length_take, List.length_drop, maxLv]); (with_reducible repeat' (first | intro h | refine And.intro (by omega) ?_ | refine exP (by omega) ?_ | apply And.intro)))
  all_goals first
   | (rw [putM hi, putN (o := o) hi]; exact Bor.allM (fun _ => rfl) hget_new rfl)
   | (exfalso; omega)
theorem w187 : ∀ (e : Exp) (l : List Oc), wEx e ≤ 1048576 → l.length + (1 + wEx e) ≤ 4194303 → Pu 187 [Ex e, OcS l] (· = OcS (usE e l)) := by
 refine Exp.indA fun e ih l hw hb => ?_
 obtain ⟨hal, haw⟩ := args_small hw
 have hwa := wEx_args e
 rw [usE_eq]
 refine gstart mxd i187 rfl (by simp) ?_; refine X0 ?_
 by_cases hk : e.kind = 3
 ·rw [if_pos hk]
  ·have hlp := putO_len l (e.pos, e.name)
   (refine V1 (jO @XE hk) ?_; with_reducible repeat' first|exact trivial|intro h|refine aO ?_|refine eO ?_|apply jO)
   all_goals try exact oF
   refine callS.eq (w226 l (e.pos, e.name) (by omega)) ?_
   (refine V1 (jO @XE hk) ?_; with_reducible repeat' first|exact trivial|intro h|refine aO ?_|refine eO ?_|apply jO)
   refine wloop mxd (ι := { i : Nat // i ≤ e.args.length }) (fun i => [(1, OcS (usEL (e.args.take i.1) (putO l (e.pos, e.name)))), (2, .rop 7 (Ex e)), (5, I i.1)]) (fun _ => []) (fun i => e.args.length - i.1) ⟨0, by omega⟩ (by simp [E2, usEL]) rfl ?_
   rintro ⟨i, hi⟩
   rcases nL i e.args.length with h | h
   ·have e1 := wExL_step h
    have e2 := wExL_take e.args (i + 1)
    have e3 := usEL_len (e.args.take i) (putO l (e.pos, e.name))
    have e4 : (e.args.take i).length = i := by simp; omega
    (refine V1 @XE ?_; with_reducible repeat' first|exact trivial|intro h|refine aO ?_|refine eO ?_|apply jO)
    all_goals try exact oF
    refine callS.eq (ih e.args[i] (gM _) _ (haw _ (gM _)) (by omega)) ?_
    (refine V1 @XE ?_; with_reducible repeat' first|exact trivial|intro h|refine aO ?_|refine eO ?_|apply jO)
    exact nx ⟨i + 1, by omega⟩ (by simp; omega) (by simp [E2, usEL_step h]) rfl
   ·obtain rfl : i = e.args.length := by omega
    (refine V1 @XE ?_; with_reducible repeat' first|exact trivial|intro h|refine aO ?_|refine eO ?_|apply jO)
    all_goals try exact oF
    rw [List.take_length]
 ·rw [if_neg hk]
  ·(refine V1 (jO @XE hk) ?_; with_reducible repeat' first|exact trivial|intro h|refine aO ?_|refine eO ?_|apply jO)
   all_goals try exact oF
   refine wloop mxd (ι := { i : Nat // i ≤ e.args.length }) (fun i => [(1, OcS (usEL (e.args.take i.1) l)), (2, .rop 7 (Ex e)), (5, I i.1)]) (fun _ => []) (fun i => e.args.length - i.1) ⟨0, by omega⟩ (by simp [E2, usEL]) rfl ?_
   rintro ⟨i, hi⟩
   rcases nL i e.args.length with h | h
   ·have e1 := wExL_step h
    have e2 := wExL_take e.args (i + 1)
    have e3 := usEL_len (e.args.take i) l
    have e4 : (e.args.take i).length = i := by simp; omega
    (refine V1 @XE ?_; with_reducible repeat' first|exact trivial|intro h|refine aO ?_|refine eO ?_|apply jO)
    all_goals try exact oF
    refine callS.eq (ih e.args[i] (gM _) _ (haw _ (gM _)) (by omega)) ?_
    (refine V1 @XE ?_; with_reducible repeat' first|exact trivial|intro h|refine aO ?_|refine eO ?_|apply jO)
    exact nx ⟨i + 1, by omega⟩ (by simp; omega) (by simp [E2, usEL_step h]) rfl
   ·obtain rfl : i = e.args.length := by omega
    (refine V1 @XE ?_; with_reducible repeat' first|exact trivial|intro h|refine aO ?_|refine eO ?_|apply jO)
    all_goals try exact oF
    rw [List.take_length]
theorem w146 (e : Exp) (hw : wEx e ≤ 1048576) : Pu 146 [Ex e] (· = OcS (usE e [])) := by
 refine gstart mxd i146 rfl (by simp) ?_; refine X0 ?_
 (refine V1 @XE ?_; with_reducible repeat' first|exact trivial|intro h|refine aO ?_|refine eO ?_|apply jO)
 refine callS.of (Pure.froz (w187 e [] hw (by simp; omega)) (.cons .refl (.cons (Bor.allM (l := ([] : List Oc)) (f := Occ) (fun _ => rfl) hget_new rfl) .nil))) ?_
 rintro g H' ⟨rfl, rfl⟩ -
 (refine V1 @XE ?_; with_reducible repeat' first|exact trivial|intro h|refine aO ?_|refine eO ?_|apply jO)
end Go.Proofs.YtlcenahinhonfaaGreat
