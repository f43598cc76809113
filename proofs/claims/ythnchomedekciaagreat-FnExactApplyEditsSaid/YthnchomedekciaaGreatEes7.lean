/- The law FnExactApplyEdits returns true whatever the input, and the input reads behind the call as before. No condition. -/
import Derived.Test.YthnchomedekciaaGreatEes6
set_option maxHeartbeats 40000000
namespace Go.Proofs.YthnchomedekciaaGreat
open Go.Gh
open Nat (reduceEqDiff reduceLeDiff reduceAdd reduceLT)
open Int (reduceNe)
set_option maxRecDepth 20000
set_option linter.unusedSimpArgs false
set_option linter.unusedVariables false
theorem w274 (e : Exp) (hl : e.args.length ≤ 1048576) (ho : okE e) : Pu 274 [Ex e] (· = B (nodeV e)) := by
 obtain ⟨hs, hm, _⟩ := okE_eq.1 ho
 have hk : e.kind = 1 ∨ e.kind = 2 ∨ e.kind = 3 ∨ e.kind = 4 ∨ e.kind = 5 ∨ e.kind = 6 ∨ e.kind = 7 ∨ e.kind = 8 ∨ (¬ (1 ≤ e.kind ∧ e.kind ≤ 8)) := by omega
 rcases hk with hk | hk | hk | hk | hk | hk | hk | hk | hk
 all_goals
  refine gstart mxd i274 rfl (by simp) ?_; refine X0 ?_
  (repeat' (first | (with_reducible refine callS.eq (w37 _ _ _) ?_) | (with_reducible refine callS.eq (w305 e hl) ?_) | (with_reducible refine callS.eq (w78 _ _) ?_) | (with_reducible refine callS.eq (w289 _ hs) ?_) | (with_reducible refine callS.eq (w289 _ hm) ?_) | simp (maxSteps := 9^7) only [↓ S2, S2, vIte, ↓reduceIte, reduceNe, reduceEqDiff, reduceCtorEq, reduceLeDiff, reduceAdd, reduceLT, XE, hk] | simp only [brGen] | simp +contextual (disch := omega) only [Z2] | with_reducible first | intro h | refine And.intro (by omega) ?_ | refine exP (by omega) ?_ | apply And.intro))
  all_goals try (exfalso; omega)
  all_goals first
   | (simp_all [nodeV]; done)
   | (simp_all [nodeV]; intros; omega)
   | (congr 2; rw [Bool.eq_iff_iff]; simp [nodeV, hk, *]; done)
theorem w223 : ∀ e : Exp, okE e → wEx e ≤ 1048576 → Pu 223 [Ex e] (· = B (allE nodeV e)) := by
 refine Exp.indA fun e ih ho hw => ?_
 obtain ⟨hl, ha⟩ := args_small hw
 obtain ⟨_, _, hoa⟩ := okE_eq.1 ho
 refine gstart mxd i223 rfl (by simp) ?_; refine X0 ?_
 simp (maxSteps := 9^7) only [↓ S2, S2, vIte, ↓reduceIte, reduceNe, reduceEqDiff, reduceCtorEq, reduceLeDiff, reduceAdd, reduceLT, XE]
 refine wloop mxd (ι := { i : Nat // i ≤ e.args.length ∧ ∀ a ∈ e.args.take i, allE nodeV a = true }) (fun i => [(1, .rop 7 (Ex e)), (3, I i.1)]) (fun _ => []) (fun i => e.args.length - i.1) ⟨0, by simp⟩ (by simp [E2]) rfl ?_
 rintro ⟨i, hi, hn⟩
 rcases Nat.lt_or_ge i e.args.length with hlt | hge
 ·(repeat' (first | (with_reducible refine callS.eq (ih _ (List.getElem_mem hlt) (hoa _ (List.getElem_mem hlt)) (ha _ (List.getElem_mem hlt))) ?_) | simp (maxSteps := 9^7) only [↓ S2, S2, vIte, ↓reduceIte, reduceNe, reduceEqDiff, reduceCtorEq, reduceLeDiff, reduceAdd, reduceLT, XE] | simp only [brGen] | simp +contextual (disch := omega) only [Z2] | with_reducible first | intro h | refine And.intro (by omega) ?_ | refine exP (by omega) ?_ | apply And.intro))
  all_goals try (exfalso; omega)
  ·exact nx ⟨i + 1, by omega, all_take hlt (by assumption) hn⟩ (by simp; omega) (by simp [E2]) rfl
  ·rw [allE_no hlt (by assumption)]
 ·have : i = e.args.length := by omega
  subst this
  rw [List.take_of_length_le (Nat.le_refl _)] at hn
  rw [allE_yes hn]
  (repeat' (first | (with_reducible refine callS.eq (w274 e hl ho) ?_) | simp (maxSteps := 9^7) only [↓ S2, S2, vIte, ↓reduceIte, reduceNe, reduceEqDiff, reduceCtorEq, reduceLeDiff, reduceAdd, reduceLT, XE] | simp only [brGen] | simp +contextual (disch := omega) only [Z2] | with_reducible first | intro h | refine And.intro (by omega) ?_ | refine exP (by omega) ?_ | apply And.intro))
theorem w166 (e : Exp) (ho : okE e) (hw : wEx e ≤ 1048576) : Pu 166 [Ex e] (· = B (validE e)) := by
 have hc := cntE_le e
 have hd := dpE_le e
 refine gstart mxd i166 rfl (by simp) ?_; refine X0 ?_
 (repeat' (first | (with_reducible refine callS.eq (w221 e hw _ (by omega) (by omega)) ?_) | (with_reducible refine callS.eq (w222 e hw) ?_) | (with_reducible refine callS.eq (w223 e ho hw) ?_) | simp (maxSteps := 9^7) only [↓ S2, S2, vIte, ↓reduceIte, reduceNe, reduceEqDiff, reduceCtorEq, reduceLeDiff, reduceAdd, reduceLT, XE] | simp only [brGen] | simp +contextual (disch := omega) only [Z2] | with_reducible first | intro h | refine And.intro (by omega) ?_ | refine exP (by omega) ?_ | apply And.intro))
 all_goals (simp only [validE])
 all_goals first
  | (rw [decide_eq_true (show cntE e ≤ 24 by omega), decide_eq_true (show dpE e ≤ 6 by omega)]; rfl)
  | (rw [decide_eq_false (show ¬ cntE e ≤ 24 by omega)]; rfl)
  | (rw [decide_eq_false (show ¬ dpE e ≤ 6 by omega), Bool.and_false]; rfl)
theorem Tryz.dec_j {p : Prop} {i : Decidable p} : (@decide p i = true) = p := propext ⟨of_decide_eq_true, decide_eq_true⟩
theorem w238 (e : Exp) (hl : e.args.length ≤ 1048576) (ho : okE e) : Pu 238 [Ex e] (· = B (nodeV e)) := by
  obtain ⟨hs, hm, _⟩ := okE_eq.1 ho
  refine Pure.bor ?_
  have hl1 : ((e.args.length : Int) = 1) = (e.args.length = 1) := propext (by omega)
  have hl2 : ((e.args.length : Int) = 2) = (e.args.length = 2) := propext (by omega)
  have hl3 : ((e.args.length : Int) = 3) = (e.args.length = 3) := propext (by omega)
  have hk : e.kind = 1 ∨ e.kind = 2 ∨ e.kind = 3 ∨ e.kind = 4 ∨ e.kind = 5 ∨ e.kind = 6 ∨ e.kind = 7 ∨ e.kind = 8 ∨ (¬ e.kind = 1 ∧ ¬ e.kind = 2 ∧ ¬ e.kind = 3 ∧ ¬ e.kind = 4 ∧ ¬ e.kind = 5 ∧ ¬ e.kind = 6 ∧ ¬ e.kind = 7 ∧ ¬ e.kind = 8) := by omega
  rcases hk with hk | hk | hk | hk | hk | hk | hk | hk | hk
  all_goals
    refine gstart mxd i238 rfl (by simp) ?_; refine X0 ?_
    (repeat' (first | (with_reducible refine callS.eq (w48 _ _ _) ?_) | (with_reducible refine callS.eq (w281 _ _) ?_) | (with_reducible refine callS.eq (w282 _ hs) ?_) | (with_reducible refine callS.eq (w282 _ hm) ?_) | (with_reducible refine callS.eq (w283 e _ _ _ _ _ _ _) ?_) | simp (maxSteps := 9^7) only [↓ S2, S2, vIte, ↓reduceIte, reduceNe, reduceEqDiff, reduceCtorEq, reduceLeDiff, reduceAdd, reduceLT, XE, hk] | simp only [brGen] | simp +contextual (disch := omega) only [Z2] | with_reducible first | intro h | refine And.intro (by omega) ?_ | refine exP (by omega) ?_ | apply And.intro))
    all_goals try (exfalso; omega)
    all_goals refine .of_eq ?_
    all_goals first
      | (simp_all [nodeV, bareV, arity, noS_eq]; done)
      | (simp_all [nodeV, bareV, arity, noS_eq]; intros; omega)
      | (have hr := okV_rng (show okV e.n e.type = true by assumption)
         congr 2
         rw [Bool.eq_iff_iff]
         try simp only [Bool.and_eq_true, Tryz.dec_j]
         try simp only [noS_eq]
         simp [nodeV, bareV, arity, hk]
         try (constructor <;> intro hh <;> (try simp_all) <;> (try omega)))
      | (congr 2
         rw [Bool.eq_iff_iff]
         try simp only [Bool.and_eq_true, Tryz.dec_j]
         try simp only [noS_eq]
         simp [nodeV, bareV, arity, hk]
         try (constructor <;> intro hh <;> (try simp_all) <;> (try omega)))
theorem w184 (e : Exp) (ho : okE e) (hw : wEx e ≤ 1048576) : Pu 184 [Ex e] (· = B (validE e)) := by
 have hc := cntE_le e
 have hd := dpE_le e
 have hev := w231 238 [] nodeV (fun e => okE e ∧ wEx e ≤ 1048576) (fun e h a ha => ⟨(okE_eq.1 h.1).2.2 a ha, (args_small h.2).2 a ha⟩) (fun x h => w238 x (args_small h.2).1 h.1) e ⟨ho, hw⟩
 refine gstart mxd i184 rfl (by simp) ?_; refine X0 ?_
 (repeat' (first | (with_reducible refine callS.eq (w236 e hw) ?_) | (with_reducible refine callS.eq (w237 e hw) ?_) | (with_reducible refine callS.eq (hev) ?_) | simp (maxSteps := 9^7) only [↓ S2, S2, vIte, ↓reduceIte, reduceNe, reduceEqDiff, reduceCtorEq, reduceLeDiff, reduceAdd, reduceLT, XE] | simp only [brGen] | simp +contextual (disch := omega) only [Z2] | with_reducible first | intro h | refine And.intro (by omega) ?_ | refine exP (by omega) ?_ | apply And.intro))
 all_goals (simp only [validE])
 all_goals first
  | (rw [decide_eq_true (show cntE e ≤ 24 by omega), decide_eq_true (show dpE e ≤ 6 by omega)]; rfl)
  | (rw [decide_eq_false (show ¬ cntE e ≤ 24 by omega)]; rfl)
  | (rw [decide_eq_false (show ¬ dpE e ≤ 6 by omega), Bool.and_false]; rfl)
theorem w320 (a b : Oc) : Pu 320 [Occ a, Occ b] (· = B (ltO a b)) := by
 refine gstart mxd i320 rfl (by simp) ?_; refine X0 ?_
 (refine R0 ?_; with_reducible repeat' first|exact trivial|intro h|refine aO ?_|refine eO ?_|apply jO)
 ·simp [ltO, h]
 ·rename_i h0
  simp only [ltO, decide_eq_false h0, decide_eq_true h, Bool.false_or, Bool.true_and]
  rfl
 ·rename_i h0
  simp [ltO, h0, h]
theorem w304 (l : List Oc) (o : Oc) (hl : l.length ≤ 4194304) : Pu 304 [OcS l, Occ o] (· = OcS (putO l o)) := by
 refine Pure.bor ?_
 refine gstart mxd i304 rfl (by simp) ?_; refine X0 ?_
 refine wloop mxd (ι := { i : Nat // i ≤ l.length ∧ ∀ a ∈ l.take i, ltO a o = true }) (fun i => [(0, OcS l), (3, .rop 2 (Occ o)), (5, I i.1)]) (fun _ => []) (fun i => l.length - i.1) ⟨0, by simp⟩ (by simp [E2]) rfl ?_
 rintro ⟨i, hi, hp⟩
 have hsl : (l.take i).length = i := by simp; omega
 rcases Nat.lt_or_ge i l.length with h | h
 ·(refine V1 @XE ?_; with_reducible repeat' first|exact trivial|intro h|refine aO ?_|refine eO ?_|apply jO)
  all_goals try (exfalso; omega)
  refine callS.eq (w320 _ _) ?_
  by_cases hb : ltO l[i] o = true
  ·(refine V1 hb ?_; with_reducible repeat' first|exact trivial|intro h|refine aO ?_|refine eO ?_|apply jO)
   exact nx ⟨i + 1, by omega, take_all_step (p := fun a => ltO a o) h hb hp⟩ (by simp; omega) (by simp [E2]) rfl
  ·have hb' : ltO l[i] o = false := by simpa using hb
   have ha : atO l o = i := atO_of hi hp (fun _ => hb')
   have hpt : putO l o = if l[i] = o then l else l.take i ++ o :: l.drop i := by
    simp only [putO, ha, List.getElem?_eq_getElem h, Option.some.injEq]
   by_cases he : l[i] = o
   ·have he1 : l[i].1 = o.1 := by rw [he]
    have he2 : l[i].2 = o.2 := by rw [he]
    (refine V1 (jO hb' (jO he1 he2)) ?_; with_reducible repeat' first|exact trivial|intro h|refine aO ?_|refine eO ?_|apply jO)
    all_goals try (exfalso; omega)
    rw [hpt, if_pos he]
    exact .refl
   ·rw [hpt, if_neg he]
    (refine V1 (jO hb' (jO @List.length_append.{0} (jO @List.length_singleton.{0} (jO @List.length_map.{0,0} (jO @List.length_take.{0} (jO @List.length_drop.{0} @maxLv)))))) ?_; with_reducible repeat' first|exact trivial|intro h|refine aO ?_|refine eO ?_|apply jO)
    all_goals first
     | (exfalso; exact he (Prod.ext (by assumption) (by assumption)))
     | (rw [putM hi, putN (o := o) hi]; exact Bor.allM (fun _ => rfl) hget_new rfl)
     | (exfalso; omega)
 ·have hil : i = l.length := by omega
  have ha : atO l o = i := atO_of hi hp (fun h => absurd h (by omega))
  have hpt : putO l o = l.take i ++ o :: l.drop i := by
   simp only [putO, ha, List.getElem?_eq_none (by omega : l.length ≤ i)]
   rfl
  rw [hpt]
  have hni : ¬ i < l.length := by omega
  ((try refine qI ?_); (repeat ((first | with_reducible refine qU ?_ | simp only [brGen]); try simp (maxSteps := 9^7) +contextual only [↓ S2, S2, ↓reduceIte, reduceNe, reduceEqDiff, reduceCtorEq, reduceLeDiff, reduceAdd, reduceLT, VQ, hni, List.length_append, List.length_singleton, List.length_map, List.length_take, List.length_drop, maxLv])); (try simp +contextual (disch := omega) only [Z2, hni, List.length_append, List.length_singleton, List.length_map, List.length_take, List.length_drop, maxLv]); (with_reducible repeat' (first | intro h | refine And.intro (by omega) ?_ | refine exP (by omega) ?_ | apply And.intro)))
  all_goals first
   | (rw [putM hi, putN (o := o) hi]; exact Bor.allM (fun _ => rfl) hget_new rfl)
   | (exfalso; omega)
theorem w273 : ∀ (e : Exp) (l : List Oc), wEx e ≤ 1048576 → l.length + (1 + wEx e) ≤ 4194303 → Pu 273 [Ex e, OcS l] (· = OcS (usE e l)) := by
 refine Exp.indA fun e ih l hw hb => ?_
 obtain ⟨hal, haw⟩ := args_small hw
 have hwa := wEx_args e
 rw [usE_eq]
 refine gstart mxd i273 rfl (by simp) ?_; refine X0 ?_
 by_cases hk : e.kind = 3
 ·rw [if_pos hk]
  ·have hlp := putO_len l (e.pos, e.name)
   (refine V1 (jO @XE hk) ?_; with_reducible repeat' first|exact trivial|intro h|refine aO ?_|refine eO ?_|apply jO)
   all_goals try (exfalso; omega)
   refine callS.eq (w304 l (e.pos, e.name) (by omega)) ?_
   (refine V1 (jO @XE hk) ?_; with_reducible repeat' first|exact trivial|intro h|refine aO ?_|refine eO ?_|apply jO)
   refine wloop mxd (ι := { i : Nat // i ≤ e.args.length }) (fun i => [(1, OcS (usEL (e.args.take i.1) (putO l (e.pos, e.name)))), (2, .rop 7 (Ex e)), (5, I i.1)]) (fun _ => []) (fun i => e.args.length - i.1) ⟨0, by omega⟩ (by simp [E2, usEL]) rfl ?_
   rintro ⟨i, hi⟩
   rcases Nat.lt_or_ge i e.args.length with h | h
   ·have e1 := wExL_step h
    have e2 := wExL_take e.args (i + 1)
    have e3 := usEL_len (e.args.take i) (putO l (e.pos, e.name))
    have e4 : (e.args.take i).length = i := by simp; omega
    (refine V1 @XE ?_; with_reducible repeat' first|exact trivial|intro h|refine aO ?_|refine eO ?_|apply jO)
    all_goals try (exfalso; omega)
    refine callS.eq (ih e.args[i] (List.getElem_mem _) _ (haw _ (List.getElem_mem _)) (by omega)) ?_
    (refine V1 @XE ?_; with_reducible repeat' first|exact trivial|intro h|refine aO ?_|refine eO ?_|apply jO)
    exact nx ⟨i + 1, by omega⟩ (by simp; omega) (by simp [E2, usEL_step h]) rfl
   ·obtain rfl : i = e.args.length := by omega
    (refine V1 @XE ?_; with_reducible repeat' first|exact trivial|intro h|refine aO ?_|refine eO ?_|apply jO)
    all_goals try (exfalso; omega)
    rw [List.take_length]
 ·rw [if_neg hk]
  ·(refine V1 (jO @XE hk) ?_; with_reducible repeat' first|exact trivial|intro h|refine aO ?_|refine eO ?_|apply jO)
   all_goals try (exfalso; omega)
   refine wloop mxd (ι := { i : Nat // i ≤ e.args.length }) (fun i => [(1, OcS (usEL (e.args.take i.1) l)), (2, .rop 7 (Ex e)), (5, I i.1)]) (fun _ => []) (fun i => e.args.length - i.1) ⟨0, by omega⟩ (by simp [E2, usEL]) rfl ?_
   rintro ⟨i, hi⟩
   rcases Nat.lt_or_ge i e.args.length with h | h
   ·have e1 := wExL_step h
    have e2 := wExL_take e.args (i + 1)
    have e3 := usEL_len (e.args.take i) l
    have e4 : (e.args.take i).length = i := by simp; omega
    (refine V1 @XE ?_; with_reducible repeat' first|exact trivial|intro h|refine aO ?_|refine eO ?_|apply jO)
    all_goals try (exfalso; omega)
    refine callS.eq (ih e.args[i] (List.getElem_mem _) _ (haw _ (List.getElem_mem _)) (by omega)) ?_
    (refine V1 @XE ?_; with_reducible repeat' first|exact trivial|intro h|refine aO ?_|refine eO ?_|apply jO)
    exact nx ⟨i + 1, by omega⟩ (by simp; omega) (by simp [E2, usEL_step h]) rfl
   ·obtain rfl : i = e.args.length := by omega
    (refine V1 @XE ?_; with_reducible repeat' first|exact trivial|intro h|refine aO ?_|refine eO ?_|apply jO)
    all_goals try (exfalso; omega)
    rw [List.take_length]
theorem w219 (e : Exp) (hw : wEx e ≤ 1048576) : Pu 219 [Ex e] (· = OcS (usE e [])) := by
 refine gstart mxd i219 rfl (by simp) ?_; refine X0 ?_
 (refine V1 @XE ?_; with_reducible repeat' first|exact trivial|intro h|refine aO ?_|refine eO ?_|apply jO)
 refine callS.of (Pure.froz (w273 e [] hw (by simp; omega)) (.cons .refl (.cons (Bor.allM (l := ([] : List Oc)) (f := Occ) (fun _ => rfl) hget_new rfl) .nil))) ?_
 rintro g H' ⟨rfl, rfl⟩ -
 (refine V1 @XE ?_; with_reducible repeat' first|exact trivial|intro h|refine aO ?_|refine eO ?_|apply jO)
end Go.Proofs.YthnchomedekciaaGreat
