/- The law FnExactStaticRun returns true whatever the input, and the input reads behind the call as before. No condition. -/
import Derived.Test.YtlcenahinhonfaaGreatEsr8
set_option maxHeartbeats 40000000
namespace Go.Proofs.YtlcenahinhonfaaGreat
open Go.Gh
open Nat (reduceEqDiff reduceLeDiff reduceAdd reduceLT)
open Int (reduceNe)
set_option maxRecDepth 20000
set_option linter.unusedSimpArgs false
set_option linter.unusedVariables false
theorem w288 (a : Att) (ha : okAt a) : Pu 288 [At a] (· = B (attV a)) := by
 unfold okAt at ha
 have h1 : a.mode = 3 ∨ ¬ a.mode = 3 := by omega
 rcases h1 with h1 | h1
 all_goals
  refine gstart mxd i288 rfl (by simp) ?_; refine X0 ?_
  (repeat' (first | (with_reducible refine callS.eq (w217 _ ha) ?_) | (with_reducible refine callS.eq (w261 _) ?_) | (with_reducible refine callS.eq (w111 _ _ _) ?_) | simp (maxSteps := 9^7) only [↓ S2, S2, vIte, ↓reduceIte, reduceNe, reduceEqDiff, reduceCtorEq, reduceLeDiff, reduceAdd, reduceLT, h1, Int.reduceEq, decide_true, decide_false] | simp only [brGen] | simp +contextual (disch := omega) only [Z2] | with_reducible first | intro h | refine And.intro (by omega) ?_ | refine exP (by omega) ?_ | apply And.intro))
  all_goals try exact oF
  all_goals first
   | (simp_all [attV]; done)
   | (simp_all [attV]; omega)
   | trace_state
theorem w267 (a : Att) (ha : okAt a) : Pu 267 [At a] (· = B (attV a)) := by
 unfold okAt at ha
 have h1 : a.mode = 3 ∨ ¬ a.mode = 3 := by omega
 rcases h1 with h1 | h1
 all_goals
  refine gstart mxd i267 rfl (by simp) ?_; refine X0 ?_
  (repeat' (first | (with_reducible refine callS.eq (w239 _ ha) ?_) | (with_reducible refine callS.eq (w50 _ _ _) ?_) | simp (maxSteps := 9^7) only [↓ S2, S2, vIte, ↓reduceIte, reduceNe, reduceEqDiff, reduceCtorEq, reduceLeDiff, reduceAdd, reduceLT, h1, Int.reduceEq, decide_true, decide_false] | simp only [brGen] | simp +contextual (disch := omega) only [Z2] | with_reducible first | intro h | refine And.intro (by omega) ?_ | refine exP (by omega) ?_ | apply And.intro))
  all_goals try exact oF
  all_goals first
   | (simp_all [attV]; done)
   | (simp_all [attV]; omega)
   | trace_state
theorem w289 (x a : Att) : Pu 289 [At x, .rop 4 (At a)] (· = B (decide (x.name = a.name))) := by
 refine gstart mxd i289 rfl (by simp) ?_; refine X0 ?_
 (refine V0 ?_; with_reducible repeat' first|exact trivial|intro h|refine aO ?_|refine eO ?_|apply jO)
theorem w247 (x a : Sym) : Pu 247 [Sy x, .rop 2 (Sy a)] (· = B (decide (x.name = a.name))) := by
 refine gstart mxd i247 rfl (by simp) ?_; refine X0 ?_
 (refine V0 ?_; with_reducible repeat' first|exact trivial|intro h|refine aO ?_|refine eO ?_|apply jO)
theorem w249 (x a : Rul) : Pu 249 [Ru x, .rop 6 (Ru a)] (· = B (decide (x.name = a.name))) := by
 refine gstart mxd i249 rfl (by simp) ?_; refine X0 ?_
 (refine V0 ?_; with_reducible repeat' first|exact trivial|intro h|refine aO ?_|refine eO ?_|apply jO)
theorem w207 (x : Att) : Pu 207 [At x] (· = B (decide (x.mode = 1))) := by
 refine gstart mxd i207 rfl (by simp) ?_; refine X0 ?_
 (refine V0 ?_; with_reducible repeat' first|exact trivial|intro h|refine aO ?_|refine eO ?_|apply jO)
theorem w255 (q : Eqn) (o : Oc) : Pu 255 [Qn q, .rop 2 (Occ o)] (· = B (decide (q.pos = o.1 ∧ q.name = o.2))) := by
 refine gstart mxd i255 rfl (by simp) ?_; refine X0 ?_
 (refine V1 @XE ?_; with_reducible repeat' first|exact trivial|intro h|refine aO ?_|refine eO ?_|apply jO)
 all_goals simp_all
theorem w257 (q e : Eqn) : Pu 257 [Qn q, .rop 9 (Qn e)] (· = B (decide (q.pos = e.pos ∧ q.name = e.name))) := by
 refine gstart mxd i257 rfl (by simp) ?_; refine X0 ?_
 (refine V1 @XE ?_; with_reducible repeat' first|exact trivial|intro h|refine aO ?_|refine eO ?_|apply jO)
 all_goals simp_all
theorem w302 (e : Exp) (n : Int) : Pu 302 [Ex e, .rop 1 (I n)] (· = B (decide (e.pos ≤ n))) := by
 refine gstart mxd i302 rfl (by simp) ?_; refine X0 ?_
 (refine V1 @XE ?_; with_reducible repeat' first|exact trivial|intro h|refine aO ?_|refine eO ?_|apply jO)
open Go.Gh.Z in def g290b : GFun := ⟨⟨12,[2,3]⟩,(s [a 2 7 0,a 3 1 1,b 4 false] (s [h 5 7 2,c 6 133 [.t 5],m 7 6,y 8 7 (j 7 2),y 9 7 (.mkfn 302 [.t 3]),y 10 7 (.call false 170 [.t 8,.t 9]),x 11 (.pick (.t 7) (.t 10) (.k (.val (.bool false)))),
 m 4 11] .ret)),[.t 4]⟩
theorem i290b : iF 290 g290b := jF Tryz.func290
theorem w290 (e : Exp) (n : Int) (ho : okE e) (hw : wEx e ≤ 1048576) : Pu 290 [Ex e, I n] (· = B (fitE e n)) := by
 refine gstart mxd i290b rfl (by simp) ?_; refine X0 ?_
 (refine V1 @XE ?_; with_reducible repeat' first|exact trivial|intro h|refine aO ?_|refine eO ?_|apply jO)
 refine callS.eq (w133 e ho hw) ?_
 rcases bC (validE e) with hv | hv
 ·(refine V1 (jO @XE hv) ?_; with_reducible repeat' first|exact trivial|intro h|refine aO ?_|refine eO ?_|apply jO)
  all_goals simp [fitE, hv]
 ·(refine V1 (jO @XE hv) ?_; with_reducible repeat' first|exact trivial|intro h|refine aO ?_|refine eO ?_|apply jO)
  refine callS.eq (w170 302 [.rop 1 (I n)] (fun x => decide (x.pos ≤ n)) (fun _ => True) (fun _ _ _ _ => trivial) (fun x _ => w302 x n) e trivial) ?_
  (refine V0 ?_; with_reducible repeat' first|exact trivial|intro h|refine aO ?_|refine eO ?_|apply jO)
  all_goals simp [fitE, hv]
theorem w260 (g : Gram) (r : Rul) (o : Oc) (hg : smGr g) (hr : smRu r) : Pu 260 [Gr g, Ru r, Occ o] (· = B (mayU g r o)) := by
 refine gstart mxd i260 rfl (by simp) ?_; refine X0 ?_
 (refine V0 ?_; with_reducible repeat' first|exact trivial|intro h|refine aO ?_|refine eO ?_|apply jO)
 refine callS.eq (w212 g r o hg hr) ?_
 (refine V0 ?_; with_reducible repeat' first|exact trivial|intro h|refine aO ?_|refine eO ?_|apply jO)
 all_goals simp_all [mayU]
theorem w295 (g : Gram) (r : Rul) (o : Oc) (hg : smGr g) (hr : smRu r) : Pu 295 [Gr g, Ru r, Occ o] (· = B (mayU g r o)) := by
 have hl := hr.1
 refine gstart mxd i295 rfl (by simp) ?_; refine X0 ?_
 (refine V0 ?_; with_reducible repeat' first|exact trivial|intro h|refine aO ?_|refine eO ?_|apply jO)
 refine callS.eq (w50 _ _ _) ?_
 by_cases h : 0 ≤ o.1 ∧ o.1 ≤ (r.right.length : Int)
 ·(refine V1 (jO h (jO @and_self @decide_true)) ?_; with_reducible repeat' first|exact trivial|intro h|refine aO ?_|refine eO ?_|apply jO)
  refine callS.eq (w192 r _ hr) ?_
  (refine V0 ?_; with_reducible repeat' first|exact trivial|intro h|refine aO ?_|refine eO ?_|apply jO)
  refine callS.eq (w43 g _ hg) ?_
  (refine V0 ?_; with_reducible repeat' first|exact trivial|intro h|refine aO ?_|refine eO ?_|apply jO)
  refine callS.eq (w153 _ _ (smSy_f hg _)) ?_
  have e1 : hasAt g r o.1 o.2 = hAtt (fSym g.syms (symAt r o.1)).atts o.2 := by simp only [hasAt, if_pos h]
  have e2 : attAt g r o.1 o.2 = fAtt (fSym g.syms (symAt r o.1)).atts o.2 := by simp only [attAt, if_pos h]
  simp only [mayU, e1, e2]
  (refine V0 ?_; with_reducible repeat' first|exact trivial|intro h|refine aO ?_|refine eO ?_|apply jO)
  all_goals simp_all
 ·have e1 : hasAt g r o.1 o.2 = false := by simp only [hasAt, if_neg h]
  (refine V1 (jO h @decide_false) ?_; with_reducible repeat' first|exact trivial|intro h|refine aO ?_|refine eO ?_|apply jO)
  all_goals simp [mayU, e1]
theorem w246 (s : Sym) (hs : okSy s) (hm : smSy s) : Pu 246 [Sy s] (· = B (symV s)) := by
 unfold smSy at hm
 refine gstart mxd i246 rfl (by simp) ?_; refine X0 ?_
 (refine V0 ?_; with_reducible repeat' first|exact trivial|intro h|refine aO ?_|refine eO ?_|apply jO)
 refine wloop mxd (ι := { i : Nat // i ≤ s.atts.length ∧ (∀ a ∈ s.atts.take i, attV a = true) ∧ ∀ j, j < i → dupA s.atts j = false }) (fun i => [(1, .rop 2 (Sy s)), (6, AtS s.atts), (7, I s.atts.length), (8, I i.1)]) (fun _ => []) (fun i => s.atts.length - i.1) ⟨0, by simp⟩ (by simp [E2]) rfl ?_
 rintro ⟨i, hi, hn, hd⟩
 rcases nL i s.atts.length with hlt | hge
 ·(refine V0 ?_; with_reducible repeat' first|exact trivial|intro h|refine aO ?_|refine eO ?_|apply jO)
  all_goals try exact oF
  refine callS.eq (w288 s.atts[i] (hs.2 _ (gM hlt))) ?_
  rcases bC (attV s.atts[i]) with hv | hv
  ·rw [symV_a hlt hv]
   (refine V1 hv ?_; with_reducible repeat' first|exact trivial|intro h|refine aO ?_|refine eO ?_|apply jO)
  ·(refine V1 hv ?_; with_reducible repeat' first|exact trivial|intro h|refine aO ?_|refine eO ?_|apply jO)
   all_goals try exact oF
   rw [show List.drop (Int.toNat 0) (List.take i (List.map At s.atts)) = (s.atts.take i).map At from by simp [List.map_take]]
   refine callS.eq (w124 (s.atts.take i) 289 [.rop 4 (At s.atts[i])] (fun o => decide (o.name = s.atts[i].name)) fun x _ => w289 x _) ?_
   rw [← dupA_eq hlt]
   rcases bC (dupA s.atts i) with hw | hw
   ·(refine V1 hw ?_; with_reducible repeat' first|exact trivial|intro h|refine aO ?_|refine eO ?_|apply jO)
    exact nx ⟨i + 1, by omega, takeP_step hlt hv hn, lt_step hw hd⟩ (by simp <;> omega) (by simp [E2]) rfl
   ·rw [symV_d hlt hw]
    (refine V1 hw ?_; with_reducible repeat' first|exact trivial|intro h|refine aO ?_|refine eO ?_|apply jO)
 ·obtain rfl : i = s.atts.length := by omega
  rw [List.take_length] at hn
  rw [symV_ok hn hd]
  (refine V0 ?_; with_reducible repeat' first|exact trivial|intro h|refine aO ?_|refine eO ?_|apply jO)
  all_goals try exact oF
  refine callS.eq (w217 _ hs.1) ?_
  (refine V0 ?_; with_reducible repeat' first|exact trivial|intro h|refine aO ?_|refine eO ?_|apply jO)
  all_goals simp_all
  all_goals omega
theorem w268 (l : List ByteArray) : Pu 268 [TS l] (· = B (dstS l)) := by
 refine GCalls.lenA fun hl => ?_
 have hlen := hl.1.1
 simp only [List.length_map, maxL] at hlen
 refine gstart mxd i268 rfl (by simp) ?_; refine X0 ?_
 (refine V0 ?_; with_reducible repeat' first|exact trivial|intro h|refine aO ?_|refine eO ?_|apply jO)
 refine wloop mxd (ι := { i : Nat // i ≤ l.length ∧ ∀ j (hj : j < l.length), j < i → hasS (l.take j) l[j] = false }) (fun i => [(0, TS l), (3, I i.1)]) (fun _ => []) (fun i => l.length - i.1) ⟨0, by simp⟩ (by simp [E2]) rfl ?_
 rintro ⟨i, hi, hn⟩
 rcases nL i l.length with hlt | hge
 ·(refine V0 ?_; with_reducible repeat' first|exact trivial|intro h|refine aO ?_|refine eO ?_|apply jO)
  all_goals try exact oF
  rw [show List.drop (Int.toNat 0) (List.take i (List.map T l)) = (l.take i).map T from by simp [List.map_take]]
  refine callS.eq (w228 (l.take i) l[i]) ?_
  rcases bC (hasS (l.take i) l[i]) with hv | hv
  ·(refine V1 hv ?_; with_reducible repeat' first|exact trivial|intro h|refine aO ?_|refine eO ?_|apply jO)
   refine nx ⟨i + 1, by omega, fun j hj hji => ?_⟩ (by simp <;> omega) (by simp [E2]) rfl
   rcases Nat.lt_succ_iff_lt_or_eq.1 hji with e | e
   ·exact hn j hj e
   ·subst e; exact hv
  ·rw [dstS_no hlt hv]
   (refine V1 hv ?_; with_reducible repeat' first|exact trivial|intro h|refine aO ?_|refine eO ?_|apply jO)
 ·obtain rfl : i = l.length := by omega
  rw [dstS_yes fun j hj => hn j hj hj]
  (refine V0 ?_; with_reducible repeat' first|exact trivial|intro h|refine aO ?_|refine eO ?_|apply jO)
  all_goals try exact oF
theorem w227 (s : Sym) (hs : okSy s) (hm : smSy s) : Pu 227 [Sy s] (· = B (symV s)) := by
 unfold smSy at hm
 refine Pure.bor ?_
 refine gstart mxd i227 rfl (by simp) ?_; refine X0 ?_
 (refine V0 ?_; with_reducible repeat' first|exact trivial|intro h|refine aO ?_|refine eO ?_|apply jO)
 rename_i r
 refine ploop mxd (ι := { x : Nat × Nat // x.2 ≤ s.atts.length ∧ ∀ a ∈ s.atts.take x.2, attV a = true }) (fun x => [(1, .rop 2 (Sy s)), (3, .own x.1.1 1 0 x.1.2), (4, I x.1.2)]) (fun x => [(x.1.1, 1, ((s.atts.take x.1.2).map (·.name)).map T)]) (fun x => s.atts.length - x.1.2) ⟨(r, 0), by simp⟩ (by simp [E2]) (by simp [subH, hget, names]) ?_
 rintro ⟨⟨r, i⟩, hi, hn⟩ -
 dsimp only at hi hn ⊢
 rcases nL i s.atts.length with hlt | hge
 ·(refine V0 ?_; with_reducible repeat' first|exact trivial|intro h|refine aO ?_|refine eO ?_|apply jO)
  all_goals try exact oF
  refine callS.eq (w267 s.atts[i] (hs.2 _ (gM hlt))) ?_
  rcases bC (attV s.atts[i]) with hv | hv
  ·rw [symV_a hlt hv]
   (refine V1 hv ?_; with_reducible repeat' first|exact trivial|intro h|refine aO ?_|refine eO ?_|apply jO)
   exact .refl
  ·(refine V1 (jO hv (jO @List.length_append.{0} (jO @List.length_singleton.{0} (jO @List.length_map.{0,0} (jO @List.length_take.{0} @maxLv))))) ?_; with_reducible repeat' first|exact trivial|intro h|refine aO ?_|refine eO ?_|apply jO)
   all_goals try exact oF
   rename_i q2 _ q3
   rw [takeApp2 T (·.name) s.atts i hlt]
   exact px ⟨(q3, i + 1), by omega, takeP_step hlt hv hn⟩ (by simp <;> omega) (by simp [E2]) (by repeat' (first | exact trivial | (refine And.intro (by simp only [hget_c, *, if_true, if_false]; try rfl) (And.intro (by simp [names_cons, names_nil, *]) ?_))))
 ·obtain rfl : i = s.atts.length := by omega
  rw [List.take_length] at hn
  rw [symV_spec hn]
  simp only [List.take_length]
  (refine V0 ?_; with_reducible repeat' first|exact trivial|intro h|refine aO ?_|refine eO ?_|apply jO)
  all_goals try exact oF
  refine callS.eq (w239 _ hs.1) ?_
  rcases bC (nameV s.name) with hv | hv
  ·rw [hv]
   (refine V0 ?_; with_reducible repeat' first|exact trivial|intro h|refine aO ?_|refine eO ?_|apply jO)
   exact .refl
  ·rw [hv]
   by_cases h4 : (s.atts.length : Int) ≤ 4
   ·have h4' : s.atts.length ≤ 4 := by omega
    (refine V1 h4 ?_; with_reducible repeat' first|exact trivial|intro h|refine aO ?_|refine eO ?_|apply jO)
    refine callS.borA (w268 (s.atts.map (·.name))) (.cons (bor_TS hget_new (by simp)) .nil) rfl ?_
    (refine V0 ?_; with_reducible repeat' first|exact trivial|intro h|refine aO ?_|refine eO ?_|apply jO)
    exact .of_eq (by simp [h4'])
   ·have h4' : ¬ s.atts.length ≤ 4 := by omega
    (refine V1 h4 ?_; with_reducible repeat' first|exact trivial|intro h|refine aO ?_|refine eO ?_|apply jO)
    exact .of_eq (by simp [h4'])
theorem w294 : ∀ (e : Exp) (n : Int), wEx e ≤ 1048576 → Pu 294 [Ex e, I n] (· = B (allE (fun x => decide (x.pos ≤ n)) e)) := by
 refine Exp.indA fun e ih n hw => ?_
 obtain ⟨hl, ha⟩ := args_small hw
 refine gstart mxd i294 rfl (by simp) ?_; refine X0 ?_
 (refine V1 @XE ?_; with_reducible repeat' first|exact trivial|intro h|refine aO ?_|refine eO ?_|apply jO)
 refine wloop mxd (ι := { i : Nat // i ≤ e.args.length ∧ ∀ a ∈ e.args.take i, allE (fun x => decide (x.pos ≤ n)) a = true }) (fun i => [(1, I n), (2, .rop 7 (Ex e)), (5, I i.1)]) (fun _ => []) (fun i => e.args.length - i.1) ⟨0, by simp⟩ (by simp [E2]) rfl ?_
 rintro ⟨i, hi, hn⟩
 rcases nL i e.args.length with hlt | hge
 ·(refine V1 @XE ?_; with_reducible repeat' first|exact trivial|intro h|refine aO ?_|refine eO ?_|apply jO)
  all_goals try exact oF
  refine callS.eq (ih _ (gM hlt) n (ha _ (gM hlt))) ?_
  rcases (Bool.eq_false_or_eq_true (allE (fun x => decide (x.pos ≤ n)) e.args[i])).symm with hv | hv
  ·rw [allE_no hlt hv]
   (refine V1 hv ?_; with_reducible repeat' first|exact trivial|intro h|refine aO ?_|refine eO ?_|apply jO)
  ·(refine V1 hv ?_; with_reducible repeat' first|exact trivial|intro h|refine aO ?_|refine eO ?_|apply jO)
   exact nx ⟨i + 1, by omega, all_take hlt hv hn⟩ (by simp <;> omega) (by simp [E2]) rfl
 ·obtain rfl : i = e.args.length := by omega
  rw [List.take_length] at hn
  rw [allE_yes hn]
  (refine V1 @XE ?_; with_reducible repeat' first|exact trivial|intro h|refine aO ?_|refine eO ?_|apply jO)
  all_goals try exact oF
theorem w269 (e : Exp) (n : Int) (ho : okE e) (hw : wEx e ≤ 1048576) : Pu 269 [Ex e, I n] (· = B (fitE e n)) := by
 refine gstart mxd i269 rfl (by simp) ?_; refine X0 ?_
 (refine V1 @XE ?_; with_reducible repeat' first|exact trivial|intro h|refine aO ?_|refine eO ?_|apply jO)
 refine callS.eq (w101 e ho hw) ?_
 rcases bC (validE e) with hv | hv
 ·(refine V1 (jO @XE hv) ?_; with_reducible repeat' first|exact trivial|intro h|refine aO ?_|refine eO ?_|apply jO)
  all_goals simp [fitE, hv]
 ·(refine V1 (jO @XE hv) ?_; with_reducible repeat' first|exact trivial|intro h|refine aO ?_|refine eO ?_|apply jO)
  refine callS.eq (w294 e n hw) ?_
  (refine V0 ?_; with_reducible repeat' first|exact trivial|intro h|refine aO ?_|refine eO ?_|apply jO)
  all_goals simp [fitE, hv]
end Go.Proofs.YtlcenahinhonfaaGreat
