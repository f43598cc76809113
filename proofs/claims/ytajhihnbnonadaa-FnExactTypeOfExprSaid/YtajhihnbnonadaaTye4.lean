/- The law FnExactTypeOfExpr returns true whatever the input, and the input reads behind the call as before. No condition. -/
import Derived.Test.YtajhihnbnonadaaTye3
namespace Go.Proofs.Ytajhihnbnonadaa
open Go.Gh
set_option maxRecDepth 20000
set_option linter.unusedSimpArgs false
set_option linter.unusedVariables false
theorem w104 (g : Gram) (r : Rul) (e : Exp) (hl : e.args.length ≤ 1048576) (ih : ∀ a ∈ e.args, Pure Try.prog 45 [Gr g, Ru r, Ex a] (· = I (tyE g r a))) : Pure Try.prog 104 [Gr g, Ru r, Ex e] (· = I (if (e.args.map (tyE g r)).length = 2 ∧ (e.args.map (tyE g r)).getD 0 0 = (opT e.n).1 ∧ (e.args.map (tyE g r)).getD 1 0 = (opT e.n).2.1 then (opT e.n).2.2 else 0)) := by
  refine gstart mxd i104 rfl (by simp) ?_; simp (maxSteps := 2000000) only [↓ S2, S2, vIte, ↓reduceIte, Int.reduceNe, Nat.reduceEqDiff, reduceCtorEq, Nat.reduceLeDiff, Nat.reduceAdd, Nat.reduceLT]
  (repeat' (first | (with_reducible refine callS.eq (w152 _) ?_) | (with_reducible refine callS.eq (ih _ (List.getElem_mem _)) ?_) | simp (maxSteps := 2000000) only [↓ S2, S2, vIte, ↓reduceIte, Int.reduceNe, Nat.reduceEqDiff, reduceCtorEq, Nat.reduceLeDiff, Nat.reduceAdd, Nat.reduceLT, XE] | simp only [brGen] | simp +contextual (disch := omega) only [Z2] | (with_reducible intro h) | (with_reducible refine And.intro (by omega) ?_) | (with_reducible refine exP (by omega) ?_) | (with_reducible apply And.intro)))
  all_goals try (exfalso; omega)
  · rw [if_pos ⟨by omega, by rw [getDm (by omega)]; assumption, by rw [getDm (by omega)]; assumption⟩]
  · rw [if_neg (fun ⟨h1, h2, h3⟩ => by rw [getDm (by omega)] at h3; contradiction)]
  · rw [if_neg (fun ⟨h1, h2, h3⟩ => by rw [getDm (by omega)] at h2; contradiction)]
  · rw [if_neg (fun ⟨h1, h2, h3⟩ => by omega)]
theorem w105 (g : Gram) (r : Rul) (e : Exp) (hl : e.args.length ≤ 1048576) (ih : ∀ a ∈ e.args, Pure Try.prog 45 [Gr g, Ru r, Ex a] (· = I (tyE g r a))) : Pure Try.prog 105 [Gr g, Ru r, Ex e] (· = I (if (e.args.map (tyE g r)).length = 3 ∧ (e.args.map (tyE g r)).getD 0 0 = 3 ∧ (e.args.map (tyE g r)).getD 1 0 = (e.args.map (tyE g r)).getD 2 0 then (e.args.map (tyE g r)).getD 1 0 else 0)) := by
  refine gstart mxd i105 rfl (by simp) ?_; simp (maxSteps := 2000000) only [↓ S2, S2, vIte, ↓reduceIte, Int.reduceNe, Nat.reduceEqDiff, reduceCtorEq, Nat.reduceLeDiff, Nat.reduceAdd, Nat.reduceLT]
  (repeat' (first | (with_reducible refine callS.eq (ih _ (List.getElem_mem _)) ?_) | simp (maxSteps := 2000000) only [↓ S2, S2, vIte, ↓reduceIte, Int.reduceNe, Nat.reduceEqDiff, reduceCtorEq, Nat.reduceLeDiff, Nat.reduceAdd, Nat.reduceLT, XE] | simp only [brGen] | simp +contextual (disch := omega) only [Z2] | (with_reducible intro h) | (with_reducible refine And.intro (by omega) ?_) | (with_reducible refine exP (by omega) ?_) | (with_reducible apply And.intro)))
  all_goals try (exfalso; omega)
  · rw [if_pos ⟨by omega, by rw [getDm (by omega)]; assumption, by rw [getDm (by omega), getDm (by omega)]; assumption⟩, getDm (by omega)]
    rfl
  · rw [if_neg (fun ⟨h1, h2, h3⟩ => by rw [getDm (by omega), getDm (by omega)] at h3; contradiction)]
  · rw [if_neg (fun ⟨h1, h2, h3⟩ => by rw [getDm (by omega)] at h2; contradiction)]
  · rw [if_neg (fun ⟨h1, h2, h3⟩ => by omega)]
theorem w45 (g : Gram) (r : Rul) (hg : smGr g) (hr : smRu r) : ∀ e : Exp, wEx e ≤ 1048576 → Pure Try.prog 45 [Gr g, Ru r, Ex e] (· = I (tyE g r e)) := by
  refine Exp.indA fun e ih hw => ?_
  obtain ⟨hl, ha⟩ := args_small hw
  have hrr := hr.1
  refine gstart mxd i45 rfl (by simp) ?_; simp (maxSteps := 2000000) only [↓ S2, S2, vIte, ↓reduceIte, Int.reduceNe, Nat.reduceEqDiff, reduceCtorEq, Nat.reduceLeDiff, Nat.reduceAdd, Nat.reduceLT]
  rw [tyE_eq]
  have hk : e.kind = 1 ∨ e.kind = 2 ∨ e.kind = 3 ∨ e.kind = 4 ∨ e.kind = 5 ∨ e.kind = 6 ∨ e.kind = 7 ∨ e.kind = 8 ∨ (¬ e.kind = 1 ∧ ¬ e.kind = 2 ∧ ¬ e.kind = 3 ∧ ¬ e.kind = 4 ∧ ¬ e.kind = 5 ∧ ¬ e.kind = 6 ∧ ¬ e.kind = 7 ∧ ¬ e.kind = 8) := by omega
  rcases hk with hk | hk | hk | hk | hk | hk | hk | hk | hk
  all_goals (repeat' (first | (with_reducible refine callS.eq (w92 _ _ _) ?_) | (with_reducible refine callS.eq (w103 _ _ hr) ?_) | (with_reducible refine callS.eq (w102 _ _ _ hg) ?_) | (with_reducible refine callS.eq (w104 g r e hl (fun a h => ih a h (ha a h))) ?_) | (with_reducible refine callS.eq (w105 g r e hl (fun a h => ih a h (ha a h))) ?_) | (with_reducible refine callS.eq (ih _ (List.getElem_mem _) (ha _ (List.getElem_mem _))) ?_) | simp (maxSteps := 2000000) only [↓ S2, S2, vIte, ↓reduceIte, Int.reduceNe, Nat.reduceEqDiff, reduceCtorEq, Nat.reduceLeDiff, Nat.reduceAdd, Nat.reduceLT, XE, hk] | simp only [brGen] | simp +contextual (disch := omega) only [Z2] | (with_reducible intro h) | (with_reducible refine And.intro (by omega) ?_) | (with_reducible refine exP (by omega) ?_) | (with_reducible apply And.intro)))
  all_goals try (exfalso; omega)
  all_goals simp only [tyK, hk, attAt, Int.reduceEq, reduceIte, List.length_map]
  all_goals first
    | (rw [if_pos (by assumption)]; done)
    | (rw [if_neg (by assumption)]; rfl)
    | (rw [if_pos ⟨by omega, by rw [getDm (by omega)]; assumption⟩]; done)
    | (rw [if_neg (fun ⟨h1, h2⟩ => by rw [getDm (by omega)] at h2; contradiction)]; done)
    | (rw [if_neg (fun ⟨h1, h2⟩ => by omega)]; done)
    | (rw [if_neg (by simp_all)]; done)
    | (split <;> simp_all; done)
    | skip
  by_cases hc : e.args.length = 3 ∧ (e.args.map (tyE g r)).getD 0 0 = 3 ∧ (e.args.map (tyE g r)).getD 1 0 = (e.args.map (tyE g r)).getD 2 0
  · rw [if_pos hc, if_pos hc, hc.2.2]
  · rw [if_neg hc, if_neg hc]
end Go.Proofs.Ytajhihnbnonadaa

namespace Go.Proofs.Ytajhihnbnonadaa
open Go.Gh
set_option maxRecDepth 20000
set_option linter.unusedSimpArgs false
set_option linter.unusedVariables false
theorem w9 (g : Gram) (r : Rul) (e : Exp) (hg : okGr g) (hr : okRu r) (ho : okE e) : Pure Try.prog 9 [Gr g, Ru r, Ex e] (· = B true) := by
  refine gstart mxd i9 rfl (by simp) ?_; simp (maxSteps := 2000000) only [↓ S2, S2, vIte, ↓reduceIte, Int.reduceNe, Nat.reduceEqDiff, reduceCtorEq, Nat.reduceLeDiff, Nat.reduceAdd, Nat.reduceLT]
  ((try simp (maxSteps := 2000000) only [↓ S2, S2, vIte, ↓reduceIte, Int.reduceNe, Nat.reduceEqDiff, reduceCtorEq, Nat.reduceLeDiff, Nat.reduceAdd, Nat.reduceLT, XE]); (repeat (simp only [brGen]; try simp (maxSteps := 2000000) only [↓ S2, S2, vIte, ↓reduceIte, Int.reduceNe, Nat.reduceEqDiff, reduceCtorEq, Nat.reduceLeDiff, Nat.reduceAdd, Nat.reduceLT, XE])); (try simp +contextual (disch := omega) only [Z2]); (repeat' (first | (with_reducible intro h) | (with_reducible refine And.intro (by omega) ?_) | (with_reducible refine exP (by omega) ?_) | (with_reducible apply And.intro))))
  refine callS.eq (w34 g _ (by omega) (by omega) hg) ?_
  ((try simp (maxSteps := 2000000) only [↓ S2, S2, vIte, ↓reduceIte, Int.reduceNe, Nat.reduceEqDiff, reduceCtorEq, Nat.reduceLeDiff, Nat.reduceAdd, Nat.reduceLT, XE]); (repeat (simp only [brGen]; try simp (maxSteps := 2000000) only [↓ S2, S2, vIte, ↓reduceIte, Int.reduceNe, Nat.reduceEqDiff, reduceCtorEq, Nat.reduceLeDiff, Nat.reduceAdd, Nat.reduceLT, XE])); (try simp +contextual (disch := omega) only [Z2]); (repeat' (first | (with_reducible intro h) | (with_reducible refine And.intro (by omega) ?_) | (with_reducible refine exP (by omega) ?_) | (with_reducible apply And.intro))))
  have h1 := szv_nn h
  have hs := smGr_of (g := g) (by omega)
  rw [szv_pos h1]
  refine callS.eq (w44 r _ (by omega) (by omega) hr) ?_
  ((try simp (maxSteps := 2000000) only [↓ S2, S2, vIte, ↓reduceIte, Int.reduceNe, Nat.reduceEqDiff, reduceCtorEq, Nat.reduceLeDiff, Nat.reduceAdd, Nat.reduceLT, XE]); (repeat (simp only [brGen]; try simp (maxSteps := 2000000) only [↓ S2, S2, vIte, ↓reduceIte, Int.reduceNe, Nat.reduceEqDiff, reduceCtorEq, Nat.reduceLeDiff, Nat.reduceAdd, Nat.reduceLT, XE])); (try simp +contextual (disch := omega) only [Z2]); (repeat' (first | (with_reducible intro h) | (with_reducible refine And.intro (by omega) ?_) | (with_reducible refine exP (by omega) ?_) | (with_reducible apply And.intro))))
  have h2 := szv_nn h
  have hq := smRu_of (x := r) (by omega)
  rw [szv_pos h2]
  refine callS.eq (w22 e ho _ (by omega) (by omega)) ?_
  ((try simp (maxSteps := 2000000) only [↓ S2, S2, vIte, ↓reduceIte, Int.reduceNe, Nat.reduceEqDiff, reduceCtorEq, Nat.reduceLeDiff, Nat.reduceAdd, Nat.reduceLT, XE]); (repeat (simp only [brGen]; try simp (maxSteps := 2000000) only [↓ S2, S2, vIte, ↓reduceIte, Int.reduceNe, Nat.reduceEqDiff, reduceCtorEq, Nat.reduceLeDiff, Nat.reduceAdd, Nat.reduceLT, XE])); (try simp +contextual (disch := omega) only [Z2]); (repeat' (first | (with_reducible intro h) | (with_reducible refine And.intro (by omega) ?_) | (with_reducible refine exP (by omega) ?_) | (with_reducible apply And.intro))))
  have h3 := szv_nn h
  have he : wEx e ≤ 1048576 := by omega
  (repeat' (first | (with_reducible refine callS.eq (w37 g hs) ?_) | (with_reducible refine callS.eq (w46 r hq) ?_) | (with_reducible refine callS.eq (w24 e he) ?_) | (with_reducible refine callS.eq (w45 g r hs hq e he) ?_) | (with_reducible refine callS.eq (w47 g r hs hq e he) ?_) | (with_reducible refine callS.eq (w41 g g) ?_) | (with_reducible refine callS.eq (w48 r r) ?_) | (with_reducible refine callS.eq (w26 e e) ?_) | simp (maxSteps := 2000000) only [↓ S2, S2, vIte, ↓reduceIte, Int.reduceNe, Nat.reduceEqDiff, reduceCtorEq, Nat.reduceLeDiff, Nat.reduceAdd, Nat.reduceLT, XE] | simp only [brGen] | simp +contextual (disch := omega) only [Z2] | (with_reducible intro h) | (with_reducible refine And.intro (by omega) ?_) | (with_reducible refine exP (by omega) ?_) | (with_reducible apply And.intro)))
  all_goals first | rfl | (exfalso; simp_all; done) | simp_all
end Go.Proofs.Ytajhihnbnonadaa

namespace Go.Proofs.Ytajhihnbnonadaa
open Go.ChangeShapes Go.WideShapes Go.ChangeAt Go.RowKit Go.Gh
theorem Try.own : ownKnob Try.prog.godebug = none := by kernel_rfl
theorem Try.laidOut : laidOutB Try.prog = true := by kernel_rfl
/-- Types whose ghosts are told by a property: slices of expressions. -/
def Try.R : TypeId → Option (GV → Prop) := fun t => if t = 36 then some ExQ else none
set_option maxRecDepth 100000 in
theorem Try.knot {H : Type} {enc : TypeId × Value → H} {W : World} {spare : Nat → Bool} {held : Bool} : ∀ f t Q cs x, Try.R t = some Q → DataW.trod enc Try.prog W 0 spare held f t cs = some x → Lf W [.pr Q] cs :=
  Go.Gh.knot (tE := 38) (ts := ExT) (ag := true) 8 (by kernel_rfl) (by kernel_rfl) (by kernel_rfl) (by decide) (fun g h => exQ h)
set_option maxRecDepth 100000 in
theorem l9 (os : Os) (started : os.Started) (H : Type) (enc : TypeId × Value → H) :
    ReturnsInHanded {} Try.checked os 9 .any (Rows.fnExactTypeOfExprSpec.pre6 enc Try.prog Try.f9 Rows.fnExactTypeOfExprRow.domain false) (Rows.fnExactTypeOfExprSpec.post enc Try.prog Try.f9 false true false false) := by
  refine returnsInHanded_of_change (C := Try.checked) Try.own started (by kernel_rfl) Try.func9
    (ChangeSpec.witness6 (enc := enc) (C := Try.checked) false ⟨#[], #[.agg #[.slice none 0 0, .slice none 0 0], .agg #[.string (ByteArray.mk #[]), .string (ByteArray.mk #[]), .slice none 0 0, .bool false, .slice none 0 0, .slice none 0 0], .agg #[.int .i64 0, .int .i64 0, .int .i64 0, .int .i64 0, .string (ByteArray.mk #[]), .string (ByteArray.mk #[]), .slice none 0 0]], []⟩ 8 (by kernel_rfl) (by kernel_rfl) (by kernel_rfl) (by kernel_rfl)) ?_
  intro W base args ds gs before hval0 hW hcnd _
  have hval : ∀ (j : Nat) t v, Try.f9.params[j]? = some t → args[j]? = some v → Value.okWide Try.prog W .any base t v := hval0
  have hW' := hW
  obtain ⟨p, q, hA0, hV, rfl, hfz, hnd⟩ := hW
  have hA : DataW.TrodAll enc Try.prog W 0 (fun _ => true) true Try.f9.params.toList args.toList ds p := hA0
  rw [Try.params9] at hA hval
  obtain ⟨v0, v1, v2, d0, d1, d2, p0, p1, p2, rfl, rfl, rfl, h0, h1, h2⟩ := trodAll_three hA
  obtain ⟨rfl, rfl⟩ := trodVars_none hV
  obtain ⟨g0, m0, e0⟩ := lift_valR (P := Try.prog) (R := Try.R) 8 Try.knot (by kernel_rfl) (ts := GrT) (ag := true) (by kernel_rfl) (hval 0 _ v0 rfl rfl) h0
  obtain ⟨g1, m1, e1⟩ := lift_valR (P := Try.prog) (R := Try.R) 8 Try.knot (by kernel_rfl) (ts := RuT) (ag := true) (by kernel_rfl) (hval 1 _ v1 rfl rfl) h1
  obtain ⟨g2, m2, e2⟩ := lift_valR (P := Try.prog) (R := Try.R) 8 Try.knot (by kernel_rfl) (ts := ExT) (ag := true) (by kernel_rfl) (hval 2 _ v2 rfl rfl) h2
  obtain ⟨g, rfl, hg⟩ := t_Gr e0
  obtain ⟨r, rfl, hr⟩ := t_Rul e1
  obtain ⟨e, rfl, ho⟩ := t_Exp e2
  clear hA0 hval0
  simp only [List.append_nil] at hW'
  have hlt := hW'.lt
  refine ((w9 g r e hg hr ho).out i9 (W := W) (args := [v0, v1, v2]) (.cons0 m0 (.cons0 m1 (.cons0 m2 .nil0)))).mono fun e W' ⟨v, g, D, he, hg, hm, hb⟩ => ?_
  subst he; subst hg
  have hv := MV.val_inv hm
  subst hv
  exact ⟨_, rfl, post_of_below (pa := p0 ++ (p1 ++ p2)) (pv := []) hW' (fun _ _ _ => trodAll_mk1 (shut_bool Try.underlying4 _)) (fun sp hsp => trodAll_mk3 (WideElems.Trod_stays Try.laidOut (by kernel_rfl) (of_decide_eq_true (by kernel_rfl)) h0 (fun x hx => hb.same (hlt x (by simp [hx]))) (fun x hx => hsp x (by simp [hx]))) (WideElems.Trod_stays Try.laidOut (by kernel_rfl) (of_decide_eq_true (by kernel_rfl)) h1 (fun x hx => hb.same (hlt x (by simp [hx]))) (fun x hx => hsp x (by simp [hx]))) (WideElems.Trod_stays Try.laidOut (by kernel_rfl) (of_decide_eq_true (by kernel_rfl)) h2 (fun x hx => hb.same (hlt x (by simp [hx]))) (fun x hx => hsp x (by simp [hx])))) (fun _ _ => rfl) (by simp)
    hb (ok_one (by kernel_rfl) rfl (okWide_bool_mk Try.underlying4 _))⟩
theorem h9 : Rows.FnExactTypeOfExprSaid :=
  OpenClaim.holds_of_wide 9 Try.f9 rfl rfl rfl rfl rfl rfl rfl ⟨rfl, rfl, rfl, rfl, rfl⟩ rfl rfl rfl rfl rfl (by kernel_rfl) Try.func9 (by kernel_rfl)
    (of_decide_eq_true (by kernel_rfl)) (by unfold Func.isWrapper; first | (rw [if_pos (by decide +kernel)]; kernel_rfl) | (rw [if_neg (by decide +kernel)]; exact ⟨rfl, rfl⟩))
    (fun os started H enc _ => l9 os started H enc)
end Go.Proofs.Ytajhihnbnonadaa

