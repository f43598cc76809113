/- The laws FnExactIsSolution and FnExactIsStatic return true whatever the input, and the input reads behind the call as before. No condition. -/
import Derived.Test.YtbdmpkidcpblaaaGreatCis16
namespace Go.Proofs.YtbdmpkidcpblaaaGreat
open Go.Gh
open Nat (reduceEqDiff reduceLeDiff reduceAdd reduceLT)
open Int (reduceNe)
set_option maxRecDepth 20000
set_option linter.unusedSimpArgs false
set_option linter.unusedVariables false
theorem w179 (e : Exp) : Pure Tryz.prog 179 [Ex e] (· = B (!decide (e.kind = 8))) := by
  refine gstart mxd i179 rfl (by simp) ?_; refine X0 ?_
  (refine V1 @XE ?_; with_reducible repeat' first | exact trivial | intro h | refine aO ?_ | refine eO ?_ | apply And.intro)
theorem w111 (e : Exp) : Pure Tryz.prog 111 [Ex e] (· = B (!nrE e)) := by
  refine gstart mxd i111 rfl (by simp) ?_; refine X0 ?_
  (refine V1 @XE ?_; with_reducible repeat' first | exact trivial | intro h | refine aO ?_ | refine eO ?_ | apply And.intro)
  refine callS.eq (w178 179 [] (fun x => !decide (x.kind = 8)) (fun _ => True) (fun _ _ _ _ => trivial) (fun x _ => w179 x) e trivial) ?_
  (refine V0 ?_; with_reducible repeat' first | exact trivial | intro h | refine aO ?_ | refine eO ?_ | apply And.intro)
  rfl
theorem w108 (r : Rul) (hr : smRu r) : Pure Tryz.prog 108 [Ru r] (· = B (remR r)) := by
  refine gstart mxd i108 rfl (by simp) ?_; refine X0 ?_
  (refine V0 ?_; with_reducible repeat' first | exact trivial | intro h | refine aO ?_ | refine eO ?_ | apply And.intro)
  refine callS.eq (w110 r hr) ?_
  (refine V0 ?_; with_reducible repeat' first | exact trivial | intro h | refine aO ?_ | refine eO ?_ | apply And.intro)
  refine callS.eq (w109 (expR r) 111 [] (fun e => !nrE e) fun x hx => w111 x) ?_
  (refine V0 ?_; with_reducible repeat' first | exact trivial | intro h | refine aO ?_ | refine eO ?_ | apply And.intro)
  rfl
theorem w53 (g : Gram) (hg : smGr g) : Pure Tryz.prog 53 [Gr g] (· = B (g.rules.any remR)) := by
  refine gstart mxd i53 rfl (by simp) ?_; refine X0 ?_
  (refine V0 ?_; with_reducible repeat' first | exact trivial | intro h | refine aO ?_ | refine eO ?_ | apply And.intro)
  refine callS.eq (w107 g.rules 108 [] remR fun x hx => w108 x (hg.2.2.2 x hx)) ?_
  (refine V0 ?_; with_reducible repeat' first | exact trivial | intro h | refine aO ?_ | refine eO ?_ | apply And.intro)
theorem w55 (a : Att) : Pure Tryz.prog 55 [At a] (· = B (decide (a.mode = 3))) := by
  refine gstart mxd i55 rfl (by simp) ?_; refine X0 ?_
  (refine V0 ?_; with_reducible repeat' first | exact trivial | intro h | refine aO ?_ | refine eO ?_ | apply And.intro)
theorem w56 (a : Att) : Pure Tryz.prog 56 [At a] (· = B a.circ) := by
  refine gstart mxd i56 rfl (by simp) ?_; refine X0 ?_
  (refine V0 ?_; with_reducible repeat' first | exact trivial | intro h | refine aO ?_ | refine eO ?_ | apply And.intro)
theorem w113 (s : Sym) (f : Nat) (p : Att → Bool) (hp : ∀ a, Pure Tryz.prog f [At a] (· = B (p a))) : Pure Tryz.prog 113 [Sy s, .rop 1 (.clo f [])] (· = B (s.atts.any p)) := by
  refine gstart mxd i113 rfl (by simp) ?_; refine X0 ?_
  (refine V0 ?_; with_reducible repeat' first | exact trivial | intro h | refine aO ?_ | refine eO ?_ | apply And.intro)
  refine callS.eq (w95 s.atts f [] p fun x hx => hp x) ?_
  (refine V0 ?_; with_reducible repeat' first | exact trivial | intro h | refine aO ?_ | refine eO ?_ | apply And.intro)
theorem w54 (g : Gram) (f : Nat) (p : Att → Bool) (hp : ∀ a, Pure Tryz.prog f [At a] (· = B (p a))) : Pure Tryz.prog 54 [Gr g, .clo f []] (· = B (hasA g p)) := by
  refine gstart mxd i54 rfl (by simp) ?_; refine X0 ?_
  ((try refine qI ?_); (repeat ((first | with_reducible refine qU ?_ | simp only [brGen]); try simp (maxSteps := 9^7) +contextual only [↓ S2, S2, ↓reduceIte, reduceNe, reduceEqDiff, reduceCtorEq, reduceLeDiff, reduceAdd, reduceLT, VQ, gs_clo])); (try simp +contextual (disch := omega) only [Z2, gs_clo]); (with_reducible repeat' (first | intro h | refine And.intro (by omega) ?_ | refine exP (by omega) ?_ | apply And.intro)))
  refine callS.eq (w112 g.syms 113 [.rop 1 (.clo f [])] (fun s => s.atts.any p) fun x hx => w113 x f p hp) ?_
  (refine V0 ?_; with_reducible repeat' first | exact trivial | intro h | refine aO ?_ | refine eO ?_ | apply And.intro)
  rfl
theorem w52 (g : Gram) (hs : smGr g) (hg : okGr g) : Pure Tryz.prog 52 [Gr g] (· = B (accG g)) := by
  refine gstart mxd i52 rfl (by simp) ?_; refine X0 ?_
  (refine V0 ?_; with_reducible repeat' first | exact trivial | intro h | refine aO ?_ | refine eO ?_ | apply And.intro)
  refine callS.eq (w21 g hs hg) ?_
  (refine V0 ?_; with_reducible repeat' first | exact trivial | intro h | refine aO ?_ | refine eO ?_ | apply And.intro)
  rfl
theorem w23 (g : Gram) (hs : smGr g) (hg : okGr g) : Pure Tryz.prog 23 [Gr g] (· = B (staS g)) := by
  rw [← staI_eq]
  unfold staI
  refine gstart mxd i23 rfl (by simp) ?_; refine X0 ?_
  (refine V0 ?_; with_reducible repeat' first | exact trivial | intro h | refine aO ?_ | refine eO ?_ | apply And.intro)
  refine callS.eq (w52 g hs hg) ?_
  rcases (Bool.eq_false_or_eq_true (accG g)).symm with h1 | h1
  · rw [h1]
    (refine V1 @Bool.false_and ?_; with_reducible repeat' first | exact trivial | intro h | refine aO ?_ | refine eO ?_ | apply And.intro)
  · rw [h1]
    (refine V0 ?_; with_reducible repeat' first | exact trivial | intro h | refine aO ?_ | refine eO ?_ | apply And.intro)
    refine callS.eq (w53 g hs) ?_
    rcases (Bool.eq_false_or_eq_true (g.rules.any remR)).symm with h2 | h2
    · rw [h2]
      (refine V0 ?_; with_reducible repeat' first | exact trivial | intro h | refine aO ?_ | refine eO ?_ | apply And.intro)
      refine callS.eq (w54 g 55 _ w55) ?_
      rcases (Bool.eq_false_or_eq_true (hasA g fun a => decide (a.mode = 3))).symm with h3 | h3
      · rw [h3]
        (refine V1 @Bool.false_and ?_; with_reducible repeat' first | exact trivial | intro h | refine aO ?_ | refine eO ?_ | apply And.intro)
        refine callS.eq (w54 g 56 _ w56) ?_
        (refine V0 ?_; with_reducible repeat' first | exact trivial | intro h | refine aO ?_ | refine eO ?_ | apply And.intro)
      · rw [h3]
        (refine V1 @Bool.false_and ?_; with_reducible repeat' first | exact trivial | intro h | refine aO ?_ | refine eO ?_ | apply And.intro)
    · rw [h2]
      (refine V1 @Bool.false_and ?_; with_reducible repeat' first | exact trivial | intro h | refine aO ?_ | refine eO ?_ | apply And.intro)
theorem w106 : ∀ (e : Exp), wEx e ≤ 1048576 → Pure Tryz.prog 106 [Ex e] (· = B (!nrE e)) := by
  refine Exp.indA fun e ih hw => ?_
  obtain ⟨hl, ha⟩ := args_small hw
  refine gstart mxd i106 rfl (by simp) ?_; refine X0 ?_
  (refine V1 @XE ?_; with_reducible repeat' first | exact trivial | intro h | refine aO ?_ | refine eO ?_ | apply And.intro)
  refine wloop mxd (ι := { i : Nat // i ≤ e.args.length ∧ ∀ a ∈ e.args.take i, nrE a = true }) (fun i => [(1, .rop 7 (Ex e)), (3, I i.1)]) (fun _ => []) (fun i => e.args.length - i.1) ⟨0, by simp⟩ (by simp [E2]) rfl ?_
  rintro ⟨i, hi, hn⟩
  rcases Nat.lt_or_ge i e.args.length with hlt | hge
  · (refine V1 @XE ?_; with_reducible repeat' first | exact trivial | intro h | refine aO ?_ | refine eO ?_ | apply And.intro)
    all_goals try (exfalso; omega)
    refine callS.eq (ih _ (List.getElem_mem hlt) (ha _ (List.getElem_mem hlt))) ?_
    rcases (Bool.eq_false_or_eq_true (nrE e.args[i])).symm with hv | hv
    · rw [nrE_arg hlt hv]
      (refine V1 hv ?_; with_reducible repeat' first | exact trivial | intro h | refine aO ?_ | refine eO ?_ | apply And.intro)
    · (refine V1 hv ?_; with_reducible repeat' first | exact trivial | intro h | refine aO ?_ | refine eO ?_ | apply And.intro)
      exact nx ⟨i + 1, by omega, takeP_step hlt hv hn⟩ (by simp <;> omega) (by simp [E2]) rfl
  · obtain rfl : i = e.args.length := by omega
    rw [List.take_length] at hn
    rw [nrE_end hn]
    (refine V1 @XE ?_; with_reducible repeat' first | exact trivial | intro h | refine aO ?_ | refine eO ?_ | apply And.intro)
    all_goals try (exfalso; omega)
theorem w50 (r : Rul) (hr : smRu r) : Pure Tryz.prog 50 [Ru r] (· = B (remQ r)) := by
  obtain ⟨m1, m2, m3, m4, m5⟩ := hr
  refine gstart mxd i50 rfl (by simp) ?_; refine X0 ?_
  (refine V0 ?_; with_reducible repeat' first | exact trivial | intro h | refine aO ?_ | refine eO ?_ | apply And.intro)
  refine wloop mxd (ι := { i : Nat // i ≤ r.eqs.length ∧ ∀ q ∈ r.eqs.take i, (!nrE q.expr) = false }) (fun i => [(1, .rop 6 (Ru r)), (3, I i.1)]) (fun _ => []) (fun i => r.eqs.length - i.1) ⟨0, by simp⟩ (by simp [E2]) rfl ?_
  rintro ⟨i, hi, hn⟩
  rcases Nat.lt_or_ge i r.eqs.length with hlt | hge
  · (refine V1 @XE ?_; with_reducible repeat' first | exact trivial | intro h | refine aO ?_ | refine eO ?_ | apply And.intro)
    all_goals try (exfalso; omega)
    refine callS.eq (w106 r.eqs[i].expr (m4 _ (List.getElem_mem hlt))) ?_
    rcases (Bool.eq_false_or_eq_true (nrE r.eqs[i].expr)).symm with hv | hv
    · have : remQ r = true := any_yes (p := fun q : Eqn => !nrE q.expr) hlt (by rw [hv]; rfl)
      rw [this]
      (refine V1 hv ?_; with_reducible repeat' first | exact trivial | intro h | refine aO ?_ | refine eO ?_ | apply And.intro)
    · (refine V1 hv ?_; with_reducible repeat' first | exact trivial | intro h | refine aO ?_ | refine eO ?_ | apply And.intro)
      exact nx ⟨i + 1, by omega, takeP_step (p := fun q : Eqn => !nrE q.expr) hlt (by rw [hv]; rfl) hn⟩ (by simp <;> omega) (by simp [E2]) rfl
  · obtain rfl : i = r.eqs.length := by omega
    rw [List.take_length] at hn
    have : remQ r = false := any_no (p := fun q : Eqn => !nrE q.expr) hn
    rw [this]
    (refine V0 ?_; with_reducible repeat' first | exact trivial | intro h | refine aO ?_ | refine eO ?_ | apply And.intro)
    all_goals try (exfalso; omega)
theorem w51 (g : Gram) (hs : smGr g) (hg : okGr g) : Pure Tryz.prog 51 [Gr g] (· = B (accG g)) := by
  refine gstart mxd i51 rfl (by simp) ?_; refine X0 ?_
  (refine V0 ?_; with_reducible repeat' first | exact trivial | intro h | refine aO ?_ | refine eO ?_ | apply And.intro)
  refine callS.eq (w20 g hs hg) ?_
  (refine V0 ?_; with_reducible repeat' first | exact trivial | intro h | refine aO ?_ | refine eO ?_ | apply And.intro)
  rfl
set_option maxHeartbeats 4000000 in
theorem w22 (g : Gram) (hs : smGr g) (hg : okGr g) : Pure Tryz.prog 22 [Gr g] (· = B (staS g)) := by
  obtain ⟨m1, m2, m3, m4⟩ := id hs
  refine gstart mxd i22 rfl (by simp) ?_; refine X0 ?_
  (refine V0 ?_; with_reducible repeat' first | exact trivial | intro h | refine aO ?_ | refine eO ?_ | apply And.intro)
  refine wloop mxd (ι := { i : Nat // i ≤ g.syms.length ∧ ∀ s ∈ g.syms.take i, (s.atts.all fun a => !(a.circ || decide (a.mode = 3))) = true }) (fun i => [(1, .rop 2 (Gr g)), (3, I i.1)]) (fun _ => []) (fun i => g.syms.length - i.1) ⟨0, by simp⟩ (by simp [E2]) rfl ?_
  rintro ⟨i, hi, hn⟩
  rcases Nat.lt_or_ge i g.syms.length with hlt | hge
  · have hal := m3 _ (List.getElem_mem hlt)
    unfold smSy at hal
    (refine V0 ?_; with_reducible repeat' first | exact trivial | intro h | refine aO ?_ | refine eO ?_ | apply And.intro)
    all_goals try (exfalso; omega)
    refine wloop mxd (ι := { j : Nat // j ≤ g.syms[i].atts.length ∧ ∀ a ∈ g.syms[i].atts.take j, (!(a.circ || decide (a.mode = 3))) = true }) (fun j => [(1, .rop 2 (Gr g)), (3, I i), (4, I j.1)]) (fun _ => []) (fun j => g.syms[i].atts.length - j.1) ⟨0, by simp⟩ (by simp [E2]) rfl ?_
    rintro ⟨j, hj, hn2⟩
    rcases Nat.lt_or_ge j g.syms[i].atts.length with hlt2 | hge2
    · have hno := noA_no hlt hlt2
      rcases (Bool.eq_false_or_eq_true g.syms[i].atts[j].circ).symm with hv | hv
      · by_cases hw : g.syms[i].atts[j].mode = 3
        · have : staS g = false := by unfold staS; rw [hno (by simp [hv, hw])]; rfl
          rw [this]
          (refine V1 (jO hv hw) ?_; with_reducible repeat' first | exact trivial | intro h | refine aO ?_ | refine eO ?_ | apply And.intro)
          all_goals try (exfalso; omega)
        · (refine V1 (jO hv hw) ?_; with_reducible repeat' first | exact trivial | intro h | refine aO ?_ | refine eO ?_ | apply And.intro)
          all_goals try (exfalso; omega)
          exact nx ⟨j + 1, by omega, takeP_step (p := fun a : Att => !(a.circ || decide (a.mode = 3))) hlt2 (by simp [hv, hw]) hn2⟩ (by simp <;> omega) (by simp [E2]) rfl
      · have : staS g = false := by unfold staS; rw [hno (by simp [hv])]; rfl
        rw [this]
        (refine V1 hv ?_; with_reducible repeat' first | exact trivial | intro h | refine aO ?_ | refine eO ?_ | apply And.intro)
        all_goals try (exfalso; omega)
    · obtain rfl : j = g.syms[i].atts.length := by omega
      rw [List.take_length] at hn2
      (refine V0 ?_; with_reducible repeat' first | exact trivial | intro h | refine aO ?_ | refine eO ?_ | apply And.intro)
      all_goals try (exfalso; omega)
      exact nx ⟨i + 1, by omega, takeP_step (p := fun s : Sym => s.atts.all fun a => !(a.circ || decide (a.mode = 3))) hlt (all_yes hn2) hn⟩ (by simp <;> omega) (by simp [E2]) rfl
  · obtain rfl : i = g.syms.length := by omega
    rw [List.take_length] at hn
    have hna : noA g = true := all_yes hn
    unfold staS
    rw [hna, Bool.true_and]
    (refine V0 ?_; with_reducible repeat' first | exact trivial | intro h | refine aO ?_ | refine eO ?_ | apply And.intro)
    all_goals try (exfalso; omega)
    refine wloop mxd (ι := { i : Nat // i ≤ g.rules.length ∧ ∀ r ∈ g.rules.take i, remQ r = false }) (fun i => [(1, .rop 2 (Gr g)), (6, I i.1)]) (fun _ => []) (fun i => g.rules.length - i.1) ⟨0, by simp⟩ (by simp [E2]) rfl ?_
    rintro ⟨i, hi, hn2⟩
    rcases Nat.lt_or_ge i g.rules.length with hlt | hge
    · (refine V0 ?_; with_reducible repeat' first | exact trivial | intro h | refine aO ?_ | refine eO ?_ | apply And.intro)
      all_goals try (exfalso; omega)
      refine callS.eq (w50 g.rules[i] (m4 _ (List.getElem_mem hlt))) ?_
      rcases (Bool.eq_false_or_eq_true (remQ g.rules[i])).symm with hv | hv
      · (refine V1 hv ?_; with_reducible repeat' first | exact trivial | intro h | refine aO ?_ | refine eO ?_ | apply And.intro)
        exact nx ⟨i + 1, by omega, takeP_step hlt hv hn2⟩ (by simp <;> omega) (by simp [E2]) rfl
      · rw [any_yes hlt hv]
        (refine V1 (jO hv @Bool.false_and) ?_; with_reducible repeat' first | exact trivial | intro h | refine aO ?_ | refine eO ?_ | apply And.intro)
    · obtain rfl : i = g.rules.length := by omega
      rw [List.take_length] at hn2
      rw [any_no hn2]
      (refine V0 ?_; with_reducible repeat' first | exact trivial | intro h | refine aO ?_ | refine eO ?_ | apply And.intro)
      all_goals try (exfalso; omega)
      refine callS.eq (w51 g hs hg) ?_
      (refine V0 ?_; with_reducible repeat' first | exact trivial | intro h | refine aO ?_ | refine eO ?_ | apply And.intro)
theorem w5 (g : Gram) (hg : okGr g) : Pure Tryz.prog 5 [Gr g] (· = B true) := by
  refine gstart mxd i5 rfl (by simp) ?_; refine X0 ?_
  refine callS.eq (w7 g _ (by omega) (by omega) hg) ?_
  (refine R0 ?_; with_reducible repeat' first | exact trivial | intro h | refine aO ?_ | refine eO ?_ | apply And.intro)
  have h1 := szv_nn h
  have hs := smGr_of (g := g) (by omega)
  repeat' (first | (with_reducible refine callS.eq (w10 g hs) ?_) | (with_reducible refine callS.eq (w22 g hs hg) ?_) | (with_reducible refine callS.eq (w23 g hs hg) ?_) | (with_reducible refine callS.eq (w14 g g) ?_) | simp (maxSteps := 9^7) only [↓ S2, S2, vIte, ↓reduceIte, reduceNe, reduceEqDiff, reduceCtorEq, reduceLeDiff, reduceAdd, reduceLT] | simp only [brGen] | simp +contextual (disch := omega) only [Z2] | (with_reducible intro h) | (with_reducible apply And.intro))
  all_goals first | rfl | (exfalso; simp_all; done) | simp_all
end Go.Proofs.YtbdmpkidcpblaaaGreat
