/- The law FnExactApplyEdits returns true whatever the input, and the input reads behind the call as before. No condition. -/
import Derived.Test.YthnchomedekciaaGreatEes8
set_option maxHeartbeats 40000000
namespace Go.Proofs.YthnchomedekciaaGreat
open Go.Gh
open Nat (reduceEqDiff reduceLeDiff reduceAdd reduceLT)
open Int (reduceNe)
set_option maxRecDepth 20000
set_option linter.unusedSimpArgs false
set_option linter.unusedVariables false
theorem w297 (a : Att) (ha : okAt a) : Pu 297 [At a] (· = B (attV a)) := by
 unfold okAt at ha
 have h1 : a.mode = 3 ∨ ¬ a.mode = 3 := by omega
 rcases h1 with h1 | h1
 all_goals
  refine gstart mxd i297 rfl (by simp) ?_; refine X0 ?_
  (repeat' (first | (with_reducible refine callS.eq (w282 _ ha) ?_) | (with_reducible refine callS.eq (w311 _) ?_) | (with_reducible refine callS.eq (w48 _ _ _) ?_) | simp (maxSteps := 9^7) only [↓ S2, S2, vIte, ↓reduceIte, reduceNe, reduceEqDiff, reduceCtorEq, reduceLeDiff, reduceAdd, reduceLT, h1, Int.reduceEq, decide_true, decide_false] | simp only [brGen] | simp +contextual (disch := omega) only [Z2] | with_reducible first | intro h | refine And.intro (by omega) ?_ | refine exP (by omega) ?_ | apply And.intro))
  all_goals try (exfalso; omega)
  all_goals first
   | (simp_all [attV]; done)
   | (simp_all [attV]; omega)
   | trace_state
theorem w288 (a : Att) (ha : okAt a) : Pu 288 [At a] (· = B (attV a)) := by
 unfold okAt at ha
 have h1 : a.mode = 3 ∨ ¬ a.mode = 3 := by omega
 rcases h1 with h1 | h1
 all_goals
  refine gstart mxd i288 rfl (by simp) ?_; refine X0 ?_
  (repeat' (first | (with_reducible refine callS.eq (w289 _ ha) ?_) | (with_reducible refine callS.eq (w37 _ _ _) ?_) | simp (maxSteps := 9^7) only [↓ S2, S2, vIte, ↓reduceIte, reduceNe, reduceEqDiff, reduceCtorEq, reduceLeDiff, reduceAdd, reduceLT, h1, Int.reduceEq, decide_true, decide_false] | simp only [brGen] | simp +contextual (disch := omega) only [Z2] | with_reducible first | intro h | refine And.intro (by omega) ?_ | refine exP (by omega) ?_ | apply And.intro))
  all_goals try (exfalso; omega)
  all_goals first
   | (simp_all [attV]; done)
   | (simp_all [attV]; omega)
   | trace_state
theorem w298 (x a : Att) : Pu 298 [At x, .rop 4 (At a)] (· = B (decide (x.name = a.name))) := by
 refine gstart mxd i298 rfl (by simp) ?_; refine X0 ?_
 (refine V0 ?_; with_reducible repeat' first|exact trivial|intro h|refine aO ?_|refine eO ?_|apply jO)
theorem w256 (x a : Sym) : Pu 256 [Sy x, .rop 2 (Sy a)] (· = B (decide (x.name = a.name))) := by
 refine gstart mxd i256 rfl (by simp) ?_; refine X0 ?_
 (refine V0 ?_; with_reducible repeat' first|exact trivial|intro h|refine aO ?_|refine eO ?_|apply jO)
theorem w258 (x a : Rul) : Pu 258 [Ru x, .rop 6 (Ru a)] (· = B (decide (x.name = a.name))) := by
 refine gstart mxd i258 rfl (by simp) ?_; refine X0 ?_
 (refine V0 ?_; with_reducible repeat' first|exact trivial|intro h|refine aO ?_|refine eO ?_|apply jO)
theorem w207 (x : Att) : Pu 207 [At x] (· = B (decide (x.mode = 1))) := by
 refine gstart mxd i207 rfl (by simp) ?_; refine X0 ?_
 (refine V0 ?_; with_reducible repeat' first|exact trivial|intro h|refine aO ?_|refine eO ?_|apply jO)
theorem w264 (q : Eqn) (o : Oc) : Pu 264 [Qn q, .rop 2 (Occ o)] (· = B (decide (q.pos = o.1 ∧ q.name = o.2))) := by
 refine gstart mxd i264 rfl (by simp) ?_; refine X0 ?_
 (refine V1 @XE ?_; with_reducible repeat' first|exact trivial|intro h|refine aO ?_|refine eO ?_|apply jO)
 all_goals simp_all
theorem w266 (q e : Eqn) : Pu 266 [Qn q, .rop 9 (Qn e)] (· = B (decide (q.pos = e.pos ∧ q.name = e.name))) := by
 refine gstart mxd i266 rfl (by simp) ?_; refine X0 ?_
 (refine V1 @XE ?_; with_reducible repeat' first|exact trivial|intro h|refine aO ?_|refine eO ?_|apply jO)
 all_goals simp_all
theorem w319 (e : Exp) (n : Int) : Pu 319 [Ex e, .rop 1 (I n)] (· = B (decide (e.pos ≤ n))) := by
 refine gstart mxd i319 rfl (by simp) ?_; refine X0 ?_
 (refine V1 @XE ?_; with_reducible repeat' first|exact trivial|intro h|refine aO ?_|refine eO ?_|apply jO)
theorem w299 (e : Exp) (n : Int) (ho : okE e) (hw : wEx e ≤ 1048576) : Pu 299 [Ex e, I n] (· = B (fitE e n)) := by
 refine gstart mxd i299 rfl (by simp) ?_; refine X0 ?_
 (refine V1 @XE ?_; with_reducible repeat' first|exact trivial|intro h|refine aO ?_|refine eO ?_|apply jO)
 refine callS.eq (w184 e ho hw) ?_
 rcases (Bool.eq_false_or_eq_true (validE e)).symm with hv | hv
 ·(refine V1 (jO @XE hv) ?_; with_reducible repeat' first|exact trivial|intro h|refine aO ?_|refine eO ?_|apply jO)
  all_goals simp [fitE, hv]
 ·(refine V1 (jO @XE hv) ?_; with_reducible repeat' first|exact trivial|intro h|refine aO ?_|refine eO ?_|apply jO)
  refine callS.eq (w231 319 [.rop 1 (I n)] (fun x => decide (x.pos ≤ n)) (fun _ => True) (fun _ _ _ _ => trivial) (fun x _ => w319 x n) e trivial) ?_
  (refine V0 ?_; with_reducible repeat' first|exact trivial|intro h|refine aO ?_|refine eO ?_|apply jO)
  all_goals simp [fitE, hv]
theorem w269 (g : Gram) (r : Rul) (o : Oc) (hg : smGr g) (hr : smRu r) : Pu 269 [Gr g, Ru r, Occ o] (· = B (mayU g r o)) := by
 refine gstart mxd i269 rfl (by simp) ?_; refine X0 ?_
 (refine V0 ?_; with_reducible repeat' first|exact trivial|intro h|refine aO ?_|refine eO ?_|apply jO)
 refine callS.eq (w212 g r o hg hr) ?_
 (refine V0 ?_; with_reducible repeat' first|exact trivial|intro h|refine aO ?_|refine eO ?_|apply jO)
 all_goals simp_all [mayU]
theorem w318 (g : Gram) (r : Rul) (o : Oc) (hg : smGr g) (hr : smRu r) : Pu 318 [Gr g, Ru r, Occ o] (· = B (mayU g r o)) := by
 have hl := hr.1
 refine gstart mxd i318 rfl (by simp) ?_; refine X0 ?_
 (refine V0 ?_; with_reducible repeat' first|exact trivial|intro h|refine aO ?_|refine eO ?_|apply jO)
 refine callS.eq (w37 _ _ _) ?_
 by_cases h : 0 ≤ o.1 ∧ o.1 ≤ (r.right.length : Int)
 ·(refine V1 (jO h (jO @and_self @decide_true)) ?_; with_reducible repeat' first|exact trivial|intro h|refine aO ?_|refine eO ?_|apply jO)
  refine callS.eq (w196 r _ hr) ?_
  (refine V0 ?_; with_reducible repeat' first|exact trivial|intro h|refine aO ?_|refine eO ?_|apply jO)
  refine callS.eq (w104 g _ hg) ?_
  (refine V0 ?_; with_reducible repeat' first|exact trivial|intro h|refine aO ?_|refine eO ?_|apply jO)
  refine callS.eq (w197 _ _ (smSy_f hg _)) ?_
  have e1 : hasAt g r o.1 o.2 = hAtt (fSym g.syms (symAt r o.1)).atts o.2 := by simp only [hasAt, if_pos h]
  have e2 : attAt g r o.1 o.2 = fAtt (fSym g.syms (symAt r o.1)).atts o.2 := by simp only [attAt, if_pos h]
  simp only [mayU, e1, e2]
  (refine V0 ?_; with_reducible repeat' first|exact trivial|intro h|refine aO ?_|refine eO ?_|apply jO)
  all_goals simp_all
 ·have e1 : hasAt g r o.1 o.2 = false := by simp only [hasAt, if_neg h]
  (refine V1 (jO h @decide_false) ?_; with_reducible repeat' first|exact trivial|intro h|refine aO ?_|refine eO ?_|apply jO)
  all_goals simp [mayU, e1]
theorem w255 (s : Sym) (hs : okSy s) (hm : smSy s) : Pu 255 [Sy s] (· = B (symV s)) := by
 unfold smSy at hm
 refine gstart mxd i255 rfl (by simp) ?_; refine X0 ?_
 (refine V0 ?_; with_reducible repeat' first|exact trivial|intro h|refine aO ?_|refine eO ?_|apply jO)
 refine wloop mxd (ι := { i : Nat // i ≤ s.atts.length ∧ (∀ a ∈ s.atts.take i, attV a = true) ∧ ∀ j, j < i → dupA s.atts j = false }) (fun i => [(1, .rop 2 (Sy s)), (6, AtS s.atts), (7, I s.atts.length), (8, I i.1)]) (fun _ => []) (fun i => s.atts.length - i.1) ⟨0, by simp⟩ (by simp [E2]) rfl ?_
 rintro ⟨i, hi, hn, hd⟩
 rcases Nat.lt_or_ge i s.atts.length with hlt | hge
 ·(refine V0 ?_; with_reducible repeat' first|exact trivial|intro h|refine aO ?_|refine eO ?_|apply jO)
  all_goals try (exfalso; omega)
  refine callS.eq (w297 s.atts[i] (hs.2 _ (List.getElem_mem hlt))) ?_
  rcases (Bool.eq_false_or_eq_true (attV s.atts[i])).symm with hv | hv
  ·rw [symV_a hlt hv]
   (refine V1 hv ?_; with_reducible repeat' first|exact trivial|intro h|refine aO ?_|refine eO ?_|apply jO)
  ·(refine V1 hv ?_; with_reducible repeat' first|exact trivial|intro h|refine aO ?_|refine eO ?_|apply jO)
   all_goals try (exfalso; omega)
   rw [show List.drop (Int.toNat 0) (List.take i (List.map At s.atts)) = (s.atts.take i).map At from by simp [List.map_take]]
   refine callS.eq (w181 (s.atts.take i) 298 [.rop 4 (At s.atts[i])] (fun o => decide (o.name = s.atts[i].name)) fun x _ => w298 x _) ?_
   rw [← dupA_eq hlt]
   rcases (Bool.eq_false_or_eq_true (dupA s.atts i)).symm with hw | hw
   ·(refine V1 hw ?_; with_reducible repeat' first|exact trivial|intro h|refine aO ?_|refine eO ?_|apply jO)
    exact nx ⟨i + 1, by omega, takeP_step hlt hv hn, lt_step hw hd⟩ (by simp <;> omega) (by simp [E2]) rfl
   ·rw [symV_d hlt hw]
    (refine V1 hw ?_; with_reducible repeat' first|exact trivial|intro h|refine aO ?_|refine eO ?_|apply jO)
 ·obtain rfl : i = s.atts.length := by omega
  rw [List.take_length] at hn
  rw [symV_ok hn hd]
  (refine V0 ?_; with_reducible repeat' first|exact trivial|intro h|refine aO ?_|refine eO ?_|apply jO)
  all_goals try (exfalso; omega)
  refine callS.eq (w282 _ hs.1) ?_
  (refine V0 ?_; with_reducible repeat' first|exact trivial|intro h|refine aO ?_|refine eO ?_|apply jO)
  all_goals simp_all
  all_goals omega
theorem w290 (l : List ByteArray) : Pu 290 [TS l] (· = B (dstS l)) := by
 refine GCalls.lenA fun hl => ?_
 have hlen := hl.1.1
 simp only [List.length_map, maxL] at hlen
 refine gstart mxd i290 rfl (by simp) ?_; refine X0 ?_
 (refine V0 ?_; with_reducible repeat' first|exact trivial|intro h|refine aO ?_|refine eO ?_|apply jO)
 refine wloop mxd (ι := { i : Nat // i ≤ l.length ∧ ∀ j (hj : j < l.length), j < i → hasS (l.take j) l[j] = false }) (fun i => [(0, TS l), (3, I i.1)]) (fun _ => []) (fun i => l.length - i.1) ⟨0, by simp⟩ (by simp [E2]) rfl ?_
 rintro ⟨i, hi, hn⟩
 rcases Nat.lt_or_ge i l.length with hlt | hge
 ·(refine V0 ?_; with_reducible repeat' first|exact trivial|intro h|refine aO ?_|refine eO ?_|apply jO)
  all_goals try (exfalso; omega)
  rw [show List.drop (Int.toNat 0) (List.take i (List.map T l)) = (l.take i).map T from by simp [List.map_take]]
  refine callS.eq (w243 (l.take i) l[i]) ?_
  rcases (Bool.eq_false_or_eq_true (hasS (l.take i) l[i])).symm with hv | hv
  ·(refine V1 hv ?_; with_reducible repeat' first|exact trivial|intro h|refine aO ?_|refine eO ?_|apply jO)
   refine nx ⟨i + 1, by omega, fun j hj hji => ?_⟩ (by simp <;> omega) (by simp [E2]) rfl
   rcases Nat.lt_succ_iff_lt_or_eq.1 hji with e | e
   ·exact hn j hj e
   ·subst e; exact hv
  ·rw [dstS_no hlt hv]
   (refine V1 hv ?_; with_reducible repeat' first|exact trivial|intro h|refine aO ?_|refine eO ?_|apply jO)
 ·obtain rfl : i = l.length := by omega
  rw [dstS_yes fun j hj => hn j hj hj]
  (refine V0 ?_; with_reducible repeat' first|exact trivial|intro h|refine aO ?_|refine eO ?_|apply jO)
  all_goals try (exfalso; omega)
theorem w242 (s : Sym) (hs : okSy s) (hm : smSy s) : Pu 242 [Sy s] (· = B (symV s)) := by
 unfold smSy at hm
 refine Pure.bor ?_
 refine gstart mxd i242 rfl (by simp) ?_; refine X0 ?_
 (refine V0 ?_; with_reducible repeat' first|exact trivial|intro h|refine aO ?_|refine eO ?_|apply jO)
 rename_i r
 refine ploop mxd (ι := { x : Nat × Nat // x.2 ≤ s.atts.length ∧ ∀ a ∈ s.atts.take x.2, attV a = true }) (fun x => [(1, .rop 2 (Sy s)), (3, .own x.1.1 1 0 x.1.2), (4, I x.1.2)]) (fun x => [(x.1.1, 1, ((s.atts.take x.1.2).map (·.name)).map T)]) (fun x => s.atts.length - x.1.2) ⟨(r, 0), by simp⟩ (by simp [E2]) (by simp [subH, hget, names]) ?_
 rintro ⟨⟨r, i⟩, hi, hn⟩ -
 dsimp only at hi hn ⊢
 rcases Nat.lt_or_ge i s.atts.length with hlt | hge
 ·(refine V0 ?_; with_reducible repeat' first|exact trivial|intro h|refine aO ?_|refine eO ?_|apply jO)
  all_goals try (exfalso; omega)
  refine callS.eq (w288 s.atts[i] (hs.2 _ (List.getElem_mem hlt))) ?_
  rcases (Bool.eq_false_or_eq_true (attV s.atts[i])).symm with hv | hv
  ·rw [symV_a hlt hv]
   (refine V1 hv ?_; with_reducible repeat' first|exact trivial|intro h|refine aO ?_|refine eO ?_|apply jO)
   exact .refl
  ·(refine V1 (jO hv (jO @List.length_append.{0} (jO @List.length_singleton.{0} (jO @List.length_map.{0,0} (jO @List.length_take.{0} @maxLv))))) ?_; with_reducible repeat' first|exact trivial|intro h|refine aO ?_|refine eO ?_|apply jO)
   all_goals try (exfalso; omega)
   rename_i q2 _ q3
   rw [takeApp2 T (·.name) s.atts i hlt]
   exact px ⟨(q3, i + 1), by omega, takeP_step hlt hv hn⟩ (by simp <;> omega) (by simp [E2]) (by repeat' (first | exact trivial | (refine And.intro (by simp only [hget_c, *, if_true, if_false]; try rfl) (And.intro (by simp [names_cons, names_nil, *]) ?_))))
 ·obtain rfl : i = s.atts.length := by omega
  rw [List.take_length] at hn
  rw [symV_spec hn]
  simp only [List.take_length]
  (refine V0 ?_; with_reducible repeat' first|exact trivial|intro h|refine aO ?_|refine eO ?_|apply jO)
  all_goals try (exfalso; omega)
  refine callS.eq (w289 _ hs.1) ?_
  rcases (Bool.eq_false_or_eq_true (nameV s.name)).symm with hv | hv
  ·rw [hv]
   (refine V0 ?_; with_reducible repeat' first|exact trivial|intro h|refine aO ?_|refine eO ?_|apply jO)
   exact .refl
  ·rw [hv]
   by_cases h4 : (s.atts.length : Int) ≤ 4
   ·have h4' : s.atts.length ≤ 4 := by omega
    (refine V1 h4 ?_; with_reducible repeat' first|exact trivial|intro h|refine aO ?_|refine eO ?_|apply jO)
    refine callS.borA (w290 (s.atts.map (·.name))) (.cons (bor_TS hget_new (by simp)) .nil) rfl ?_
    (refine V0 ?_; with_reducible repeat' first|exact trivial|intro h|refine aO ?_|refine eO ?_|apply jO)
    exact .of_eq (by simp [h4'])
   ·have h4' : ¬ s.atts.length ≤ 4 := by omega
    (refine V1 h4 ?_; with_reducible repeat' first|exact trivial|intro h|refine aO ?_|refine eO ?_|apply jO)
    exact .of_eq (by simp [h4'])
theorem w317 : ∀ (e : Exp) (n : Int), wEx e ≤ 1048576 → Pu 317 [Ex e, I n] (· = B (allE (fun x => decide (x.pos ≤ n)) e)) := by
 refine Exp.indA fun e ih n hw => ?_
 obtain ⟨hl, ha⟩ := args_small hw
 refine gstart mxd i317 rfl (by simp) ?_; refine X0 ?_
 (refine V1 @XE ?_; with_reducible repeat' first|exact trivial|intro h|refine aO ?_|refine eO ?_|apply jO)
 refine wloop mxd (ι := { i : Nat // i ≤ e.args.length ∧ ∀ a ∈ e.args.take i, allE (fun x => decide (x.pos ≤ n)) a = true }) (fun i => [(1, I n), (2, .rop 7 (Ex e)), (5, I i.1)]) (fun _ => []) (fun i => e.args.length - i.1) ⟨0, by simp⟩ (by simp [E2]) rfl ?_
 rintro ⟨i, hi, hn⟩
 rcases Nat.lt_or_ge i e.args.length with hlt | hge
 ·(refine V1 @XE ?_; with_reducible repeat' first|exact trivial|intro h|refine aO ?_|refine eO ?_|apply jO)
  all_goals try (exfalso; omega)
  refine callS.eq (ih _ (List.getElem_mem hlt) n (ha _ (List.getElem_mem hlt))) ?_
  rcases (Bool.eq_false_or_eq_true (allE (fun x => decide (x.pos ≤ n)) e.args[i])).symm with hv | hv
  ·rw [allE_no hlt hv]
   (refine V1 hv ?_; with_reducible repeat' first|exact trivial|intro h|refine aO ?_|refine eO ?_|apply jO)
  ·(refine V1 hv ?_; with_reducible repeat' first|exact trivial|intro h|refine aO ?_|refine eO ?_|apply jO)
   exact nx ⟨i + 1, by omega, all_take hlt hv hn⟩ (by simp <;> omega) (by simp [E2]) rfl
 ·obtain rfl : i = e.args.length := by omega
  rw [List.take_length] at hn
  rw [allE_yes hn]
  (refine V1 @XE ?_; with_reducible repeat' first|exact trivial|intro h|refine aO ?_|refine eO ?_|apply jO)
  all_goals try (exfalso; omega)
theorem w291 (e : Exp) (n : Int) (ho : okE e) (hw : wEx e ≤ 1048576) : Pu 291 [Ex e, I n] (· = B (fitE e n)) := by
 refine gstart mxd i291 rfl (by simp) ?_; refine X0 ?_
 (refine V1 @XE ?_; with_reducible repeat' first|exact trivial|intro h|refine aO ?_|refine eO ?_|apply jO)
 refine callS.eq (w166 e ho hw) ?_
 rcases (Bool.eq_false_or_eq_true (validE e)).symm with hv | hv
 ·(refine V1 (jO @XE hv) ?_; with_reducible repeat' first|exact trivial|intro h|refine aO ?_|refine eO ?_|apply jO)
  all_goals simp [fitE, hv]
 ·(refine V1 (jO @XE hv) ?_; with_reducible repeat' first|exact trivial|intro h|refine aO ?_|refine eO ?_|apply jO)
  refine callS.eq (w317 e n hw) ?_
  (refine V0 ?_; with_reducible repeat' first|exact trivial|intro h|refine aO ?_|refine eO ?_|apply jO)
  all_goals simp [fitE, hv]
end Go.Proofs.YthnchomedekciaaGreat
