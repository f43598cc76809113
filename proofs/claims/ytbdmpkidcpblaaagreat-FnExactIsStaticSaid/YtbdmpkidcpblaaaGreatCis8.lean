/- The laws FnExactIsSolution and FnExactIsStatic return true whatever the input, and the input reads behind the call as before. No condition. -/
import Derived.Test.YtbdmpkidcpblaaaGreatCis7
namespace Go.Proofs.YtbdmpkidcpblaaaGreat
open Go.Gh
open Nat (reduceEqDiff reduceLeDiff reduceAdd reduceLT)
open Int (reduceNe)
set_option maxRecDepth 20000
set_option linter.unusedSimpArgs false
set_option linter.unusedVariables false
set_option maxHeartbeats 20000000 in
theorem w271 (e : Exp) (hl : e.args.length ≤ 1048576) (ho : okE e) : Pure Tryz.prog 271 [Ex e] (· = B (nodeV e)) := by
  obtain ⟨hs, hm, _⟩ := okE_eq.1 ho
  have hk : e.kind = 1 ∨ e.kind = 2 ∨ e.kind = 3 ∨ e.kind = 4 ∨ e.kind = 5 ∨ e.kind = 6 ∨ e.kind = 7 ∨ e.kind = 8 ∨ (¬ (1 ≤ e.kind ∧ e.kind ≤ 8)) := by omega
  rcases hk with hk | hk | hk | hk | hk | hk | hk | hk | hk
  all_goals
    refine gstart mxd i271 rfl (by simp) ?_; refine X0 ?_
    (repeat' (first | (with_reducible refine callS.eq (w85 _ _ _) ?_) | (with_reducible refine callS.eq (w296 e hl) ?_) | (with_reducible refine callS.eq (w230 _ _) ?_) | (with_reducible refine callS.eq (w214 _ hs) ?_) | (with_reducible refine callS.eq (w214 _ hm) ?_) | simp (maxSteps := 9^7) only [↓ S2, S2, vIte, ↓reduceIte, reduceNe, reduceEqDiff, reduceCtorEq, reduceLeDiff, reduceAdd, reduceLT, XE, hk] | simp only [brGen] | simp +contextual (disch := omega) only [Z2] | with_reducible first | intro h | refine And.intro (by omega) ?_ | refine exP (by omega) ?_ | apply And.intro))
    all_goals try (exfalso; omega)
    all_goals first
      | (simp_all [nodeV]; done)
      | (simp_all [nodeV]; intros; omega)
      | (congr 2; rw [Bool.eq_iff_iff]; simp [nodeV, hk, *]; done)
theorem w235 : ∀ e : Exp, okE e → wEx e ≤ 1048576 → Pure Tryz.prog 235 [Ex e] (· = B (allE nodeV e)) := by
  refine Exp.indA fun e ih ho hw => ?_
  obtain ⟨hl, ha⟩ := args_small hw
  obtain ⟨_, _, hoa⟩ := okE_eq.1 ho
  refine gstart mxd i235 rfl (by simp) ?_; refine X0 ?_
  simp (maxSteps := 9^7) only [↓ S2, S2, vIte, ↓reduceIte, reduceNe, reduceEqDiff, reduceCtorEq, reduceLeDiff, reduceAdd, reduceLT, XE]
  refine wloop mxd (ι := { i : Nat // i ≤ e.args.length ∧ ∀ a ∈ e.args.take i, allE nodeV a = true }) (fun i => [(1, .rop 7 (Ex e)), (3, I i.1)]) (fun _ => []) (fun i => e.args.length - i.1) ⟨0, by simp⟩ (by simp [E2]) rfl ?_
  rintro ⟨i, hi, hn⟩
  rcases Nat.lt_or_ge i e.args.length with hlt | hge
  · (repeat' (first | (with_reducible refine callS.eq (ih _ (List.getElem_mem hlt) (hoa _ (List.getElem_mem hlt)) (ha _ (List.getElem_mem hlt))) ?_) | simp (maxSteps := 9^7) only [↓ S2, S2, vIte, ↓reduceIte, reduceNe, reduceEqDiff, reduceCtorEq, reduceLeDiff, reduceAdd, reduceLT, XE] | simp only [brGen] | simp +contextual (disch := omega) only [Z2] | with_reducible first | intro h | refine And.intro (by omega) ?_ | refine exP (by omega) ?_ | apply And.intro))
    all_goals try (exfalso; omega)
    · exact nx ⟨i + 1, by omega, all_take hlt (by assumption) hn⟩ (by simp; omega) (by simp [E2]) rfl
    · rw [allE_no hlt (by assumption)]
  · have : i = e.args.length := by omega
    subst this
    rw [List.take_of_length_le (Nat.le_refl _)] at hn
    rw [allE_yes hn]
    (repeat' (first | (with_reducible refine callS.eq (w271 e hl ho) ?_) | simp (maxSteps := 9^7) only [↓ S2, S2, vIte, ↓reduceIte, reduceNe, reduceEqDiff, reduceCtorEq, reduceLeDiff, reduceAdd, reduceLT, XE] | simp only [brGen] | simp +contextual (disch := omega) only [Z2] | with_reducible first | intro h | refine And.intro (by omega) ?_ | refine exP (by omega) ?_ | apply And.intro))
theorem w187 (e : Exp) (ho : okE e) (hw : wEx e ≤ 1048576) : Pure Tryz.prog 187 [Ex e] (· = B (validE e)) := by
  have hc := cntE_le e
  have hd := dpE_le e
  refine gstart mxd i187 rfl (by simp) ?_; refine X0 ?_
  (repeat' (first | (with_reducible refine callS.eq (w233 e hw _ (by omega) (by omega)) ?_) | (with_reducible refine callS.eq (w234 e hw) ?_) | (with_reducible refine callS.eq (w235 e ho hw) ?_) | simp (maxSteps := 9^7) only [↓ S2, S2, vIte, ↓reduceIte, reduceNe, reduceEqDiff, reduceCtorEq, reduceLeDiff, reduceAdd, reduceLT, XE] | simp only [brGen] | simp +contextual (disch := omega) only [Z2] | with_reducible first | intro h | refine And.intro (by omega) ?_ | refine exP (by omega) ?_ | apply And.intro))
  all_goals (simp only [validE])
  all_goals first
    | (rw [decide_eq_true (show cntE e ≤ 24 by omega), decide_eq_true (show dpE e ≤ 6 by omega)]; rfl)
    | (rw [decide_eq_false (show ¬ cntE e ≤ 24 by omega)]; rfl)
    | (rw [decide_eq_false (show ¬ dpE e ≤ 6 by omega), Bool.and_false]; rfl)
theorem Tryz.dec_j {p : Prop} {i : Decidable p} : (@decide p i = true) = p := propext ⟨of_decide_eq_true, decide_eq_true⟩
set_option maxHeartbeats 20000000 in
theorem w277 (e : Exp) (hl : e.args.length ≤ 1048576) (ho : okE e) : Pure Tryz.prog 277 [Ex e] (· = B (nodeV e)) := by
  obtain ⟨hs, hm, _⟩ := okE_eq.1 ho
  refine Pure.bor ?_
  have hl1 : ((e.args.length : Int) = 1) = (e.args.length = 1) := propext (by omega)
  have hl2 : ((e.args.length : Int) = 2) = (e.args.length = 2) := propext (by omega)
  have hl3 : ((e.args.length : Int) = 3) = (e.args.length = 3) := propext (by omega)
  have hk : e.kind = 1 ∨ e.kind = 2 ∨ e.kind = 3 ∨ e.kind = 4 ∨ e.kind = 5 ∨ e.kind = 6 ∨ e.kind = 7 ∨ e.kind = 8 ∨ (¬ e.kind = 1 ∧ ¬ e.kind = 2 ∧ ¬ e.kind = 3 ∧ ¬ e.kind = 4 ∧ ¬ e.kind = 5 ∧ ¬ e.kind = 6 ∧ ¬ e.kind = 7 ∧ ¬ e.kind = 8) := by omega
  rcases hk with hk | hk | hk | hk | hk | hk | hk | hk | hk
  all_goals
    refine gstart mxd i277 rfl (by simp) ?_; refine X0 ?_
    (repeat' (first | (with_reducible refine callS.eq (w73 _ _ _) ?_) | (with_reducible refine callS.eq (w297 _ _) ?_) | (with_reducible refine callS.eq (w224 _ hs) ?_) | (with_reducible refine callS.eq (w224 _ hm) ?_) | (with_reducible refine callS.eq (w298 e _ _ _ _ _ _ _) ?_) | simp (maxSteps := 9^7) only [↓ S2, S2, vIte, ↓reduceIte, reduceNe, reduceEqDiff, reduceCtorEq, reduceLeDiff, reduceAdd, reduceLT, XE, hk] | simp only [brGen] | simp +contextual (disch := omega) only [Z2] | with_reducible first | intro h | refine And.intro (by omega) ?_ | refine exP (by omega) ?_ | apply And.intro))
    all_goals try (exfalso; omega)
    all_goals refine .of_eq ?_
    all_goals first
      | (simp_all [nodeV, bareV, arity, noS_eq]; done)
      | (simp_all [nodeV, bareV, arity, noS_eq]; intros; omega)
      | (have hr := okV_rng (show okV e.n e.type = true by assumption)
         congr 2
         rw [Bool.eq_iff_iff]
         try simp only [Bool.and_eq_true, Tryz.dec_j]
         try simp only [noS_eq]
         simp [nodeV, bareV, arity, hk]
         try (constructor <;> intro hh <;> (try simp_all) <;> (try omega)))
      | (congr 2
         rw [Bool.eq_iff_iff]
         try simp only [Bool.and_eq_true, Tryz.dec_j]
         try simp only [noS_eq]
         simp [nodeV, bareV, arity, hk]
         try (constructor <;> intro hh <;> (try simp_all) <;> (try omega)))
theorem w238 (e : Exp) (ho : okE e) (hw : wEx e ≤ 1048576) : Pure Tryz.prog 238 [Ex e] (· = B (validE e)) := by
  have hc := cntE_le e
  have hd := dpE_le e
  have hev := w178 277 [] nodeV (fun e => okE e ∧ wEx e ≤ 1048576) (fun e h a ha => ⟨(okE_eq.1 h.1).2.2 a ha, (args_small h.2).2 a ha⟩) (fun x h => w277 x (args_small h.2).1 h.1) e ⟨ho, hw⟩
  refine gstart mxd i238 rfl (by simp) ?_; refine X0 ?_
  (repeat' (first | (with_reducible refine callS.eq (w275 e hw) ?_) | (with_reducible refine callS.eq (w276 e hw) ?_) | (with_reducible refine callS.eq (hev) ?_) | simp (maxSteps := 9^7) only [↓ S2, S2, vIte, ↓reduceIte, reduceNe, reduceEqDiff, reduceCtorEq, reduceLeDiff, reduceAdd, reduceLT, XE] | simp only [brGen] | simp +contextual (disch := omega) only [Z2] | with_reducible first | intro h | refine And.intro (by omega) ?_ | refine exP (by omega) ?_ | apply And.intro))
  all_goals (simp only [validE])
  all_goals first
    | (rw [decide_eq_true (show cntE e ≤ 24 by omega), decide_eq_true (show dpE e ≤ 6 by omega)]; rfl)
    | (rw [decide_eq_false (show ¬ cntE e ≤ 24 by omega)]; rfl)
    | (rw [decide_eq_false (show ¬ dpE e ≤ 6 by omega), Bool.and_false]; rfl)
end Go.Proofs.YtbdmpkidcpblaaaGreat
namespace Go.Proofs.YtbdmpkidcpblaaaGreat
open Go.Gh
open Nat (reduceEqDiff reduceLeDiff reduceAdd reduceLT)
open Int (reduceNe)
set_option maxRecDepth 20000
set_option linter.unusedSimpArgs false
set_option linter.unusedVariables false
set_option maxHeartbeats 20000000 in
theorem w188 (sl : List Slo) (lit : Int) (ids : List Int) (hi : ids.length ≤ 1048576) : ∀ e : Exp, allE nodeV e = true → Pure Tryz.prog 188 [Ex e, SltS sl, I lit, IS ids] (· = I (evE sl lit ids e)) := by
  refine Exp.indA fun e ih hv => ?_
  obtain ⟨hn, ha⟩ := allE_args hv
  have hp := nodeV_pos hn
  have har := nodeV_args hn
  rw [evE_eq]
  have hk : e.kind = 1 ∨ e.kind = 2 ∨ e.kind = 3 ∨ e.kind = 4 ∨ e.kind = 5 ∨ e.kind = 6 ∨ (¬ e.kind = 1 ∧ ¬ e.kind = 2 ∧ ¬ e.kind = 3 ∧ ¬ e.kind = 4 ∧ ¬ e.kind = 5 ∧ ¬ e.kind = 6) := by omega
  rcases hk with hk | hk | hk | hk | hk | hk | hk
  all_goals
    simp [arity, hk] at har
    refine gstart mxd i188 rfl (by simp) ?_; refine X0 ?_
    (repeat' (first | (with_reducible refine callS.eq (w236 sl (e.pos, e.name)) ?_) | (with_reducible refine callS.eq (ih _ (List.getElem_mem _) (ha _ (List.getElem_mem _))) ?_) | (with_reducible refine callS.eq (w237 _ _ _) ?_) | (with_reducible refine callS.eq (w85 _ _ _) ?_) | simp (maxSteps := 9^7) only [↓ S2, S2, vIte, ↓reduceIte, reduceNe, reduceEqDiff, reduceCtorEq, reduceLeDiff, reduceAdd, reduceLT, XE, hk] | simp only [brGen] | simp +contextual (disch := omega) only [Z2] | with_reducible first | intro h | refine And.intro (by omega) ?_ | refine exP (by omega) ?_ | apply And.intro))
    all_goals try (exfalso; omega)
    all_goals simp only [evK, hk, Int.reduceEq, reduceIte]
    all_goals first
      | rfl
      | (rw [getDm (by omega), getDm (by omega)]; rfl)
      | (rw [getDm (by omega), if_pos (by assumption), getDm (by omega)]; rfl)
      | (rw [getDm (by omega), if_neg (by assumption), getDm (by omega)]; rfl)
      | (rw [if_pos (by omega), getD_lt (by omega)]; done)
      | (rw [if_neg (by omega)]; done)
theorem w239 (sl : List Slo) (o : Int × ByteArray) : Pure Tryz.prog 239 [Occ o, .rop 1 (SltS sl)] (· = I (slotValue sl o)) := by
  refine gstart mxd i239 rfl (by simp) ?_; refine X0 ?_
  (repeat' (first | (with_reducible refine callS.eq (w240 sl o) ?_) | simp (maxSteps := 9^7) only [↓ S2, S2, vIte, ↓reduceIte, reduceNe, reduceEqDiff, reduceCtorEq, reduceLeDiff, reduceAdd, reduceLT] | simp only [brGen] | simp +contextual (disch := omega) only [Z2] | with_reducible first | intro h | refine And.intro (by omega) ?_ | refine exP (by omega) ?_ | apply And.intro))
theorem w241 (n : Int) (e : Exp) : Pure Tryz.prog 241 [I n, Ex e] (· = I 0) := by
  refine gstart mxd i241 rfl (by simp) ?_; refine X0 ?_
  (refine R1 @XE ?_; with_reducible repeat' first | exact trivial | intro h | refine aO ?_ | refine eO ?_ | apply And.intro)
set_option maxHeartbeats 20000000 in
theorem w242 (sl : List Slo) (lit : Int) (ids : List Int) (hi : ids.length ≤ 1048576) : ∀ e : Exp, allE nodeV e = true → Pure Tryz.prog 242 [.agg [.clo 239 [.rop 1 (SltS sl)], .clo 241 [], I lit, IS ids], Ex e] (· = I (evE sl lit ids e)) := by
  refine Exp.indA fun e ih hv => ?_
  obtain ⟨hn, ha⟩ := allE_args hv
  have hp := nodeV_pos hn
  have har := nodeV_args hn
  rw [evE_eq]
  have hk : e.kind = 1 ∨ e.kind = 2 ∨ e.kind = 3 ∨ e.kind = 4 ∨ e.kind = 5 ∨ e.kind = 6 ∨ e.kind = 8 ∨ (¬ e.kind = 1 ∧ ¬ e.kind = 2 ∧ ¬ e.kind = 3 ∧ ¬ e.kind = 4 ∧ ¬ e.kind = 5 ∧ ¬ e.kind = 6 ∧ ¬ e.kind = 8) := by omega
  rcases hk with hk | hk | hk | hk | hk | hk | hk | hk
  all_goals
    simp [arity, hk] at har
    refine gstart mxd i242 rfl (by simp) ?_; refine X0 ?_
    (repeat' (first | (with_reducible refine callS.eq (w239 sl (e.pos, e.name)) ?_) | (with_reducible refine callS.eq (w241 _ e) ?_) | (with_reducible refine callS.eq (ih _ (List.getElem_mem _) (ha _ (List.getElem_mem _))) ?_) | (with_reducible refine callS.eq (w278 _ _ _) ?_) | simp (maxSteps := 9^7) only [↓ S2, S2, vIte, ↓reduceIte, reduceNe, reduceEqDiff, reduceCtorEq, reduceLeDiff, reduceAdd, reduceLT, XE, hk] | simp only [brGen] | simp +contextual (disch := omega) only [Z2] | with_reducible first | intro h | refine And.intro (by omega) ?_ | refine exP (by omega) ?_ | apply And.intro))
    all_goals try (exfalso; omega)
    all_goals simp only [evK, hk, Int.reduceEq, reduceIte]
    all_goals first
      | rfl
      | (rw [getDm (by omega), getDm (by omega)]; rfl)
      | (rw [getDm (by omega), if_pos (by assumption), getDm (by omega)]; rfl)
      | (rw [getDm (by omega), if_neg (by assumption), getDm (by omega)]; rfl)
      | (rw [if_pos (by omega), getD_lt (by omega)]; done)
      | (rw [if_neg (by omega)]; done)
theorem w117 (e : Exp) (sl : List Slo) (lit : Int) (ids : List Int) (ho : okE e) (hw : wEx e ≤ 1048576) (hi : ids.length ≤ 1048576) : Pure Tryz.prog 117 [Ex e, SltS sl, I lit, IS ids] (· = I (if validE e then evE sl lit ids e else 0)) := by
  refine gstart mxd i117 rfl (by simp) ?_; refine X0 ?_
  simp (maxSteps := 9^7) only [↓ S2, S2, vIte, ↓reduceIte, reduceNe, reduceEqDiff, reduceCtorEq, reduceLeDiff, reduceAdd, reduceLT, XE]
  refine callS.eq (w187 e ho hw) ?_
  by_cases hv : validE e = true
  · have hv' := hv
    simp only [validE, Bool.and_eq_true] at hv'
    (repeat' (first | (with_reducible refine callS.eq (w188 sl lit ids hi e hv'.2) ?_) | simp (maxSteps := 9^7) only [↓ S2, S2, vIte, ↓reduceIte, reduceNe, reduceEqDiff, reduceCtorEq, reduceLeDiff, reduceAdd, reduceLT, XE, hv] | simp only [brGen] | simp +contextual (disch := omega) only [Z2] | with_reducible first | intro h | refine And.intro (by omega) ?_ | refine exP (by omega) ?_ | apply And.intro))
  · simp only [Bool.not_eq_true] at hv
    (repeat' (first | (with_reducible refine callS.eq (w85 _ _ _) ?_) | simp (maxSteps := 9^7) only [↓ S2, S2, vIte, ↓reduceIte, reduceNe, reduceEqDiff, reduceCtorEq, reduceLeDiff, reduceAdd, reduceLT, XE, hv] | simp only [brGen] | simp +contextual (disch := omega) only [Z2] | with_reducible first | intro h | refine And.intro (by omega) ?_ | refine exP (by omega) ?_ | apply And.intro))
theorem w190 (e : Exp) (sl : List Slo) (lit : Int) (ids : List Int) (ho : okE e) (hw : wEx e ≤ 1048576) (hi : ids.length ≤ 1048576) : Pure Tryz.prog 190 [Ex e, SltS sl, I lit, IS ids] (· = I (if validE e then evE sl lit ids e else 0)) := by
  refine gstart mxd i190 rfl (by simp) ?_; refine X0 ?_
  simp (maxSteps := 9^7) only [↓ S2, S2, vIte, ↓reduceIte, reduceNe, reduceEqDiff, reduceCtorEq, reduceLeDiff, reduceAdd, reduceLT, XE]
  refine callS.eq (w238 e ho hw) ?_
  by_cases hv : validE e = true
  · have hv' := hv
    simp only [validE, Bool.and_eq_true] at hv'
    (repeat' (first | (with_reducible refine callS.eq (w242 sl lit ids hi e hv'.2) ?_) | simp (maxSteps := 9^7) only [↓ S2, S2, vIte, ↓reduceIte, reduceNe, reduceEqDiff, reduceCtorEq, reduceLeDiff, reduceAdd, reduceLT, XE, hv, upd_nf, stor_nf, gs_clo, cells_nf] | simp only [brGen] | simp +contextual (disch := omega) only [Z2] | with_reducible first | intro h | refine And.intro (by omega) ?_ | refine exP (by omega) ?_ | apply And.intro))
  · simp only [Bool.not_eq_true] at hv
    (repeat' (first | (with_reducible refine callS.eq (w73 _ _ _) ?_) | simp (maxSteps := 9^7) only [↓ S2, S2, vIte, ↓reduceIte, reduceNe, reduceEqDiff, reduceCtorEq, reduceLeDiff, reduceAdd, reduceLT, XE, hv] | simp only [brGen] | simp +contextual (disch := omega) only [Z2] | with_reducible first | intro h | refine And.intro (by omega) ?_ | refine exP (by omega) ?_ | apply And.intro))
theorem o119 (t : List Nod) (i : Int) (hl : t.length ≤ 1048576) (hx : ∀ x ∈ t, x.kids.length ≤ 1048576) (H : GH) : GCalls Tryz.prog 119 [Tr t, I i] H (fun g H' => ∃ H1, (∃ r, g = .own r 1 0 (nodeIds t i).length ∧ H1 = [(r, 1, (nodeIds t i).map I)]) ∧ H' = H1 ++ H) := by
  refine gstart mxd i119 rfl (by simp) ?_; refine X0 ?_
  intro r hr
  refine callS.eq (w85 _ _ _) ?_
  by_cases hi0 : 0 ≤ i ∧ i ≤ (t.length : Int) - 1
  · obtain ⟨i, rfl⟩ : ∃ k : Nat, i = k := ⟨i.toNat, by omega⟩
    have hi : i < t.length := by omega
    have hk := hx _ (List.getElem_mem hi)
    rw [nodeIds_in hi]
    (refine R1 hi0 ?_; with_reducible repeat' first | exact trivial | intro h | refine aO ?_ | refine eO ?_ | apply And.intro)
    rename_i r2
    have hne : r2 ≠ r := ne_of_new h hget_new
    ((try refine qI ?_); (repeat ((first | with_reducible refine qU ?_ | simp only [brGen]); try simp (maxSteps := 9^7) only [↓ S2, S2, vIte, ↓reduceIte, reduceNe, reduceEqDiff, reduceCtorEq, reduceLeDiff, reduceAdd, reduceLT, hget_old hne, hdel_old hne])); (try simp +contextual (disch := omega) only [Z2, hget_old hne, hdel_old hne]); (with_reducible repeat' (first | intro h | refine And.intro (by omega) ?_ | refine exP (by omega) ?_ | apply And.intro)))
    rename_i r3
    have hne3 : r3 ≠ r2 := ne_of_new h hget_new
    refine wloopF mxd (ι := { x : Nat × Nat // x.2 ≤ t[i].kids.length }) (fun x => [(2, .rop 1 (Tr t)), (1, I i), (5, .own x.1.1 1 0 (idsAt t ((i : Int) :: t[i].kids.take x.1.2)).length), (6, I x.1.2)]) (fun x => (x.1.1, 1, (idsAt t ((i : Int) :: t[i].kids.take x.1.2)).map I) :: H) (fun x => t[i].kids.length - x.1.2) ⟨(r3, 0), by simp⟩ (FE.drop (r := r2) (by rw [hget_old hne3, hget_new])) ?_ ?_ ?_
    · simp [E2, idsAt, hi]
    · rw [hdel_old hne3, hdel_new]
      simp [idsAt, hi]
    · rintro ⟨⟨q, j⟩, hj⟩ hnd
      dsimp only at hj hnd ⊢
      have hle := idsAt_len t ((i : Int) :: t[i].kids.take j)
      simp only [List.length_cons, List.length_take] at hle
      refine gwp_ok mxd ?_
      (refine R0 ?_; with_reducible repeat' first | exact trivial | intro h | refine aO ?_ | refine eO ?_ | apply And.intro)
      · refine callS.eq (w85 _ _ _) ?_
        (refine R0 ?_; with_reducible repeat' first | exact trivial | intro h | refine aO ?_ | refine eO ?_ | apply And.intro)
        · rename_i q2
          have hneq : q2 ≠ q := ne_of_new h hget_new
          ((try refine qI ?_); (repeat ((first | with_reducible refine qU ?_ | simp only [brGen]); try simp (maxSteps := 9^7) only [↓ S2, S2, vIte, ↓reduceIte, reduceNe, reduceEqDiff, reduceCtorEq, reduceLeDiff, reduceAdd, reduceLT, hget_old hneq, hdel_old hneq, List.length_append, List.length_singleton, List.take_length, maxLv])); (try simp +contextual (disch := omega) only [Z2, hget_old hneq, hdel_old hneq, List.length_append, List.length_singleton, List.take_length, maxLv]); (with_reducible repeat' (first | intro h | refine And.intro (by omega) ?_ | refine exP (by omega) ?_ | apply And.intro)))
          rename_i q3
          have hq3 : q3 ≠ q2 := ne_of_new h hget_new
          have e := idsAt_snoc_in (t := t) (l := (i : Int) :: t[i].kids.take j) (k := t[i].kids[j]) (by omega) (by omega)
          refine nxF ⟨(q3, j + 1), by omega⟩ (by simp; omega) (FE.drop (r := q2) (by rw [hget_old hq3, hget_new])) ?_ ?_
          · show subE _ [(2, .rop 1 (Tr t)), (1, I i), (5, .own q3 1 0 (idsAt t ((i : Int) :: t[i].kids.take (j + 1))).length), (6, I ((j + 1 : Nat) : Int))]
            rw [take_cons_step (by omega), e]
            simp [E2]
          · show _ = (q3, 1, (idsAt t ((i : Int) :: t[i].kids.take (j + 1))).map I) :: H
            rw [hdel_old hq3, hdel_new, take_cons_step (by omega), e, List.take_of_length_le (by simp)]
            simp
        · have e := idsAt_snoc_out (t := t) (l := (i : Int) :: t[i].kids.take j) (k := t[i].kids[j]) (by omega)
          refine nx ⟨(q, j + 1), by omega⟩ (by simp; omega) ?_ ?_
          · show subE _ [(2, .rop 1 (Tr t)), (1, I i), (5, .own q 1 0 (idsAt t ((i : Int) :: t[i].kids.take (j + 1))).length), (6, I ((j + 1 : Nat) : Int))]
            rw [take_cons_step (by omega), e]
            simp [E2]
          · show _ = (q, 1, (idsAt t ((i : Int) :: t[i].kids.take (j + 1))).map I) :: H
            rw [take_cons_step (by omega), e]
      · have : j = t[i].kids.length := by omega
        subst this
        rw [List.take_length]
        exact ⟨_, ⟨q, rfl, rfl⟩, rfl⟩
    all_goals first | (exfalso; omega) | skip
  · have e : nodeIds t i = [] := by simp only [nodeIds]; rw [if_neg (by omega)]
    rw [e]
    (refine R1 hi0 ?_; with_reducible repeat' first | exact trivial | intro h | refine aO ?_ | refine eO ?_ | apply And.intro)
    exact ⟨_, ⟨r, rfl, rfl⟩, rfl⟩
theorem o192 (t : List Nod) (i : Int) (hl : t.length ≤ 1048576) (hx : ∀ x ∈ t, x.kids.length ≤ 1048576) (H : GH) : GCalls Tryz.prog 192 [Tr t, I i] H (fun g H' => ∃ H1, (∃ r, g = .own r 1 0 (nodeIds t i).length ∧ H1 = [(r, 1, (nodeIds t i).map I)]) ∧ H' = H1 ++ H) := by
  have h0 : GCalls Tryz.prog 192 [Tr t, I i] H (fun g H' => ∃ r, g = .own r 1 0 (nodeIds t i).length ∧ (H' = (r, 1, (nodeIds t i).map I) :: H ∨ ∃ r3 e, r ≠ r3 ∧ H' = (r, 1, (nodeIds t i).map I) :: (r3, 1, e) :: H)) := by
    refine gstart mxd i192 rfl (by simp) ?_; refine X0 ?_
    intro r hr
    refine callS.eq (w201 _ _) ?_
    by_cases hi0 : 0 ≤ i ∧ i < (t.length : Int)
    · obtain ⟨i, rfl⟩ : ∃ k : Nat, i = k := ⟨i.toNat, by omega⟩
      have hi : i < t.length := by omega
      have hk := hx _ (List.getElem_mem hi)
      rw [nodeIds_in hi]
      (refine R1 (jO hi0 @maxLv) ?_; with_reducible repeat' first | exact trivial | intro h | refine aO ?_ | refine eO ?_ | apply And.intro)
      rename_i r2 h2 r3
      have hne : r2 ≠ r := ne_of_new h2 hget_new
      have hne3 : r3 ≠ r := ne_of_new h hget_new
      have he : (GV.val (.int .i64 (i : Int))) :: t[i].kids.map I = ((i : Int) :: t[i].kids).map I := rfl
      rw [he]
      have hlc : ((i : Int) :: t[i].kids).length = 1 + t[i].kids.length := by simp; omega
      generalize ((i : Int) :: t[i].kids) = ks at hlc ⊢
      rw [← hlc]
      clear he h
      refine wloopF mxd (ι := { x : Nat × Nat // x.2 ≤ ks.length ∧ x.1 ≠ r3 }) (fun x => [(2, .rop 1 (Tr t)), (22, .own r3 1 0 ks.length), (23, I ks.length), (5, .own x.1.1 1 0 (idsAt t (ks.take x.1.2)).length), (24, I x.1.2)]) (fun x => (x.1.1, 1, (idsAt t (ks.take x.1.2)).map I) :: (r3, 1, ks.map I) :: H) (fun x => ks.length - x.1.2) ⟨(r, 0), by omega, Ne.symm hne3⟩ (FE.swap) ?_ ?_ ?_
      · simp [E2, idsAt]
      · simp [idsAt]
      · rintro ⟨⟨q, j⟩, hj, hq⟩ hnd
        dsimp only at hj hq hnd ⊢
        have hle := idsAt_len t (ks.take j)
        simp only [List.length_take] at hle
        refine gwp_ok mxd ?_
        ((try refine qI ?_); (repeat ((first | with_reducible refine qU ?_ | simp only [brGen]); try simp (maxSteps := 9^7) only [↓ S2, S2, vIte, ↓reduceIte, reduceNe, reduceEqDiff, reduceCtorEq, reduceLeDiff, reduceAdd, reduceLT, hget_old hq])); (try simp +contextual (disch := omega) only [Z2, hget_old hq]); (with_reducible repeat' (first | intro h | refine And.intro (by omega) ?_ | refine exP (by omega) ?_ | apply And.intro)))
        · refine callS.eq (w201 _ _) ?_
          ((try refine qI ?_); (repeat ((first | with_reducible refine qU ?_ | simp only [brGen]); try simp (maxSteps := 9^7) only [↓ S2, S2, vIte, ↓reduceIte, reduceNe, reduceEqDiff, reduceCtorEq, reduceLeDiff, reduceAdd, reduceLT, hget_old hq])); (try simp +contextual (disch := omega) only [Z2, hget_old hq]); (with_reducible repeat' (first | intro h | refine And.intro (by omega) ?_ | refine exP (by omega) ?_ | apply And.intro)))
          · rename_i q2
            have hneq : q2 ≠ q := ne_of_new h hget_new
            ((try refine qI ?_); (repeat ((first | with_reducible refine qU ?_ | simp only [brGen]); try simp (maxSteps := 9^7) only [↓ S2, S2, vIte, ↓reduceIte, reduceNe, reduceEqDiff, reduceCtorEq, reduceLeDiff, reduceAdd, reduceLT, hget_old hneq, hdel_old hneq, List.length_append, List.length_singleton, maxLv])); (try simp +contextual (disch := omega) only [Z2, hget_old hneq, hdel_old hneq, List.length_append, List.length_singleton, maxLv]); (with_reducible repeat' (first | intro h | refine And.intro (by omega) ?_ | refine exP (by omega) ?_ | apply And.intro)))
            rename_i q3
            have hq3 : q3 ≠ q2 := ne_of_new h hget_new
            have hq4 : q3 ≠ r3 := by
              simp only [names, List.map_cons, List.nodup_cons, List.mem_cons, not_or] at h
              exact h.1.2.1
            have e := idsAt_snoc_in (t := t) (l := ks.take j) (k := ks[j]) (by omega) (by omega)
            refine nxF ⟨(q3, j + 1), by omega, hq4⟩ (by simp; omega) (FE.drop (r := q2) (by rw [hget_old hq3, hget_new])) ?_ ?_
            · show subE _ [(2, .rop 1 (Tr t)), (22, .own r3 1 0 ks.length), (23, I ks.length), (5, .own q3 1 0 (idsAt t (ks.take (j + 1))).length), (24, I ((j + 1 : Nat) : Int))]
              rw [take_step' (by omega), e]
              simp [E2]
            · show _ = (q3, 1, (idsAt t (ks.take (j + 1))).map I) :: (r3, 1, ks.map I) :: H
              rw [hdel_old hq3, hdel_new, take_step' (by omega), e, List.take_of_length_le (by simp)]
              simp
          · have e := idsAt_snoc_out (t := t) (l := ks.take j) (k := ks[j]) (by omega)
            refine nx ⟨(q, j + 1), by omega, hq⟩ (by simp; omega) ?_ ?_
            · show subE _ [(2, .rop 1 (Tr t)), (22, .own r3 1 0 ks.length), (23, I ks.length), (5, .own q 1 0 (idsAt t (ks.take (j + 1))).length), (24, I ((j + 1 : Nat) : Int))]
              rw [take_step' (by omega), e]
              simp [E2]
            · show _ = (q, 1, (idsAt t (ks.take (j + 1))).map I) :: (r3, 1, ks.map I) :: H
              rw [take_step' (by omega), e]
        · have : j = ks.length := by omega
          subst this
          rw [List.take_length]
          exact ⟨q, rfl, .inr ⟨r3, _, hq, rfl⟩⟩
    · have e : nodeIds t i = [] := by simp only [nodeIds]; rw [if_neg (by omega)]
      rw [e]
      (refine R1 hi0 ?_; with_reducible repeat' first | exact trivial | intro h | refine aO ?_ | refine eO ?_ | apply And.intro)
      exact ⟨r, rfl, .inl rfl⟩
  refine h0.fr ?_
  rintro g H' ⟨r, rfl, rfl | ⟨r3, e, hne, rfl⟩⟩
  · exact ⟨_, _, FR.refl _ _, _, ⟨r, rfl, rfl⟩, rfl⟩
  · exact ⟨_, _, FR.drop (r := r3) (by rw [hget_old hne, hget_new]), _, ⟨r, rfl, rfl⟩, by rw [hdel_old hne, hdel_new]; rfl⟩
theorem w280 (a b : Oc) : Pure Tryz.prog 280 [Occ a, Occ b] (· = B (ltO a b)) := by
  refine gstart mxd i280 rfl (by simp) ?_; refine X0 ?_
  (refine R0 ?_; with_reducible repeat' first | exact trivial | intro h | refine aO ?_ | refine eO ?_ | apply And.intro)
  · simp [ltO, h]
  · rename_i h0
    simp only [ltO, decide_eq_false h0, decide_eq_true h, Bool.false_or, Bool.true_and]
    rfl
  · rename_i h0
    simp [ltO, h0, h]
set_option maxHeartbeats 8000000 in
theorem w245 (l : List Oc) (o : Oc) (hl : l.length ≤ 4194304) : Pure Tryz.prog 245 [OcS l, Occ o] (· = OcS (putO l o)) := by
  refine Pure.bor ?_
  refine gstart mxd i245 rfl (by simp) ?_; refine X0 ?_
  refine wloop mxd (ι := { i : Nat // i ≤ l.length ∧ ∀ a ∈ l.take i, ltO a o = true }) (fun i => [(0, OcS l), (3, .rop 2 (Occ o)), (5, I i.1)]) (fun _ => []) (fun i => l.length - i.1) ⟨0, by simp⟩ (by simp [E2]) rfl ?_
  rintro ⟨i, hi, hp⟩
  have hsl : (l.take i).length = i := by simp; omega
  rcases Nat.lt_or_ge i l.length with h | h
  · (refine V1 @XE ?_; with_reducible repeat' first | exact trivial | intro h | refine aO ?_ | refine eO ?_ | apply And.intro)
    all_goals try (exfalso; omega)
    refine callS.eq (w280 _ _) ?_
    by_cases hb : ltO l[i] o = true
    · (refine V1 hb ?_; with_reducible repeat' first | exact trivial | intro h | refine aO ?_ | refine eO ?_ | apply And.intro)
      exact nx ⟨i + 1, by omega, take_all_step (p := fun a => ltO a o) h hb hp⟩ (by simp; omega) (by simp [E2]) rfl
    · have hb' : ltO l[i] o = false := by simpa using hb
      have ha : atO l o = i := atO_of hi hp (fun _ => hb')
      have hpt : putO l o = if l[i] = o then l else l.take i ++ o :: l.drop i := by
        simp only [putO, ha, List.getElem?_eq_getElem h, Option.some.injEq]
      by_cases he : l[i] = o
      · have he1 : l[i].1 = o.1 := by rw [he]
        have he2 : l[i].2 = o.2 := by rw [he]
        (refine V1 (jO hb' (jO he1 he2)) ?_; with_reducible repeat' first | exact trivial | intro h | refine aO ?_ | refine eO ?_ | apply And.intro)
        all_goals try (exfalso; omega)
        rw [hpt, if_pos he]
        exact .refl
      · rw [hpt, if_neg he]
        (refine V1 (jO hb' (jO @List.length_append.{0} (jO @List.length_singleton.{0} (jO @List.length_map.{0,0} (jO @List.length_take.{0} (jO @List.length_drop.{0} @maxLv)))))) ?_; with_reducible repeat' first | exact trivial | intro h | refine aO ?_ | refine eO ?_ | apply And.intro)
        all_goals first
          | (exfalso; exact he (Prod.ext (by assumption) (by assumption)))
          | (rw [putM hi, putN (o := o) hi]; exact Bor.allM (fun _ => rfl) hget_new rfl)
          | (exfalso; omega)
  · have hil : i = l.length := by omega
    have ha : atO l o = i := atO_of hi hp (fun h => absurd h (by omega))
    have hpt : putO l o = l.take i ++ o :: l.drop i := by
      simp only [putO, ha, List.getElem?_eq_none (by omega : l.length ≤ i)]
      rfl
    rw [hpt]
    have hni : ¬ i < l.length := by omega
    ((try refine qI ?_); (repeat ((first | with_reducible refine qU ?_ | simp only [brGen]); try simp (maxSteps := 9^7) +contextual only [↓ S2, S2, ↓reduceIte, reduceNe, reduceEqDiff, reduceCtorEq, reduceLeDiff, reduceAdd, reduceLT, VQ, hni, List.length_append, List.length_singleton, List.length_map, List.length_take, List.length_drop, maxLv])); (try simp +contextual (disch := omega) only [Z2, hni, List.length_append, List.length_singleton, List.length_map, List.length_take, List.length_drop, maxLv]); (with_reducible repeat' (first | intro h | refine And.intro (by omega) ?_ | refine exP (by omega) ?_ | apply And.intro)))
    all_goals first
      | (rw [putM hi, putN (o := o) hi]; exact Bor.allM (fun _ => rfl) hget_new rfl)
      | (exfalso; omega)
theorem w196 : ∀ (e : Exp) (l : List Oc), wEx e ≤ 1048576 → l.length + (1 + wEx e) ≤ 4194303 → Pure Tryz.prog 196 [Ex e, OcS l] (· = OcS (usE e l)) := by
  refine Exp.indA fun e ih l hw hb => ?_
  obtain ⟨hal, haw⟩ := args_small hw
  have hwa := wEx_args e
  rw [usE_eq]
  refine gstart mxd i196 rfl (by simp) ?_; refine X0 ?_
  by_cases hk : e.kind = 3
  · rw [if_pos hk]
    · have hlp := putO_len l (e.pos, e.name)
      (refine V1 (jO @XE hk) ?_; with_reducible repeat' first | exact trivial | intro h | refine aO ?_ | refine eO ?_ | apply And.intro)
      all_goals try (exfalso; omega)
      refine callS.eq (w245 l (e.pos, e.name) (by omega)) ?_
      (refine V1 (jO @XE hk) ?_; with_reducible repeat' first | exact trivial | intro h | refine aO ?_ | refine eO ?_ | apply And.intro)
      refine wloop mxd (ι := { i : Nat // i ≤ e.args.length }) (fun i => [(1, OcS (usEL (e.args.take i.1) (putO l (e.pos, e.name)))), (2, .rop 7 (Ex e)), (5, I i.1)]) (fun _ => []) (fun i => e.args.length - i.1) ⟨0, by omega⟩ (by simp [E2, usEL]) rfl ?_
      rintro ⟨i, hi⟩
      rcases Nat.lt_or_ge i e.args.length with h | h
      · have e1 := wExL_step h
        have e2 := wExL_take e.args (i + 1)
        have e3 := usEL_len (e.args.take i) (putO l (e.pos, e.name))
        have e4 : (e.args.take i).length = i := by simp; omega
        (refine V1 @XE ?_; with_reducible repeat' first | exact trivial | intro h | refine aO ?_ | refine eO ?_ | apply And.intro)
        all_goals try (exfalso; omega)
        refine callS.eq (ih e.args[i] (List.getElem_mem _) _ (haw _ (List.getElem_mem _)) (by omega)) ?_
        (refine V1 @XE ?_; with_reducible repeat' first | exact trivial | intro h | refine aO ?_ | refine eO ?_ | apply And.intro)
        exact nx ⟨i + 1, by omega⟩ (by simp; omega) (by simp [E2, usEL_step h]) rfl
      · obtain rfl : i = e.args.length := by omega
        (refine V1 @XE ?_; with_reducible repeat' first | exact trivial | intro h | refine aO ?_ | refine eO ?_ | apply And.intro)
        all_goals try (exfalso; omega)
        rw [List.take_length]
  · rw [if_neg hk]
    · (refine V1 (jO @XE hk) ?_; with_reducible repeat' first | exact trivial | intro h | refine aO ?_ | refine eO ?_ | apply And.intro)
      all_goals try (exfalso; omega)
      refine wloop mxd (ι := { i : Nat // i ≤ e.args.length }) (fun i => [(1, OcS (usEL (e.args.take i.1) l)), (2, .rop 7 (Ex e)), (5, I i.1)]) (fun _ => []) (fun i => e.args.length - i.1) ⟨0, by omega⟩ (by simp [E2, usEL]) rfl ?_
      rintro ⟨i, hi⟩
      rcases Nat.lt_or_ge i e.args.length with h | h
      · have e1 := wExL_step h
        have e2 := wExL_take e.args (i + 1)
        have e3 := usEL_len (e.args.take i) l
        have e4 : (e.args.take i).length = i := by simp; omega
        (refine V1 @XE ?_; with_reducible repeat' first | exact trivial | intro h | refine aO ?_ | refine eO ?_ | apply And.intro)
        all_goals try (exfalso; omega)
        refine callS.eq (ih e.args[i] (List.getElem_mem _) _ (haw _ (List.getElem_mem _)) (by omega)) ?_
        (refine V1 @XE ?_; with_reducible repeat' first | exact trivial | intro h | refine aO ?_ | refine eO ?_ | apply And.intro)
        exact nx ⟨i + 1, by omega⟩ (by simp; omega) (by simp [E2, usEL_step h]) rfl
      · obtain rfl : i = e.args.length := by omega
        (refine V1 @XE ?_; with_reducible repeat' first | exact trivial | intro h | refine aO ?_ | refine eO ?_ | apply And.intro)
        all_goals try (exfalso; omega)
        rw [List.take_length]
theorem w128 (e : Exp) (hw : wEx e ≤ 1048576) : Pure Tryz.prog 128 [Ex e] (· = OcS (usE e [])) := by
  refine gstart mxd i128 rfl (by simp) ?_; refine X0 ?_
  (refine V1 @XE ?_; with_reducible repeat' first | exact trivial | intro h | refine aO ?_ | refine eO ?_ | apply And.intro)
  refine callS.of (Pure.froz (w196 e [] hw (by simp; omega)) (.cons .refl (.cons (Bor.allM (l := ([] : List Oc)) (f := Occ) (fun _ => rfl) hget_new rfl) .nil))) ?_
  rintro g H' ⟨rfl, rfl⟩ -
  (refine V1 @XE ?_; with_reducible repeat' first | exact trivial | intro h | refine aO ?_ | refine eO ?_ | apply And.intro)
end Go.Proofs.YtbdmpkidcpblaaaGreat
