/- The law FnExactAttributeOf returns true whatever the input, and the input reads behind the call as before. No condition. -/
import Derived.Test.YtajhihnbnonadaaAto1
namespace Go.Proofs.Ytajhihnbnonadaa
open Go.Gh
set_option maxRecDepth 20000
set_option linter.unusedSimpArgs false
set_option linter.unusedVariables false
theorem w158 (x : Sym) (hx : smSy x) : Pure Try.prog 158 [Sy x] (· = Sy x) := by
  unfold smSy at hx
  refine Pure.bor ?_
  refine gstart mxd i158 rfl (by simp) ?_; simp only [↓ S2, S2, vIte, ↓reduceIte, Int.reduceNe, Nat.reduceEqDiff, reduceCtorEq, Nat.reduceLeDiff, Nat.reduceAdd, Nat.reduceLT]
  ((try simp only [↓ S2, S2, vIte, ↓reduceIte, Int.reduceNe, Nat.reduceEqDiff, reduceCtorEq, Nat.reduceLeDiff, Nat.reduceAdd, Nat.reduceLT]); (repeat (simp only [brGen]; try simp only [↓ S2, S2, vIte, ↓reduceIte, Int.reduceNe, Nat.reduceEqDiff, reduceCtorEq, Nat.reduceLeDiff, Nat.reduceAdd, Nat.reduceLT])); (try simp +contextual (disch := omega) only [Z2]); (repeat' (first | (with_reducible intro h) | (with_reducible refine And.intro (by omega) ?_) | (with_reducible refine exP (by omega) ?_) | (with_reducible apply And.intro))))
  exact .agg (.cons .refl (.cons (Bor.allM (fun _ => rfl) hget_new rfl) .nil))
theorem w117 (g : Gram) (s : ByteArray) (hg : smGr g) : Pure Try.prog 117 [Gr g, T s] (· = .tup [Sy (fSym g.syms s), B (hSym g.syms s)]) := by
  refine Pure.bor ?_
  have hlen := hg.1
  refine gstart mxd i117 rfl (by simp) ?_; simp only [↓ S2, S2, vIte, ↓reduceIte, Int.reduceNe, Nat.reduceEqDiff, reduceCtorEq, Nat.reduceLeDiff, Nat.reduceAdd, Nat.reduceLT]
  refine wloop mxd (ι := { i : Nat // i ≤ g.syms.length ∧ ∀ y ∈ g.syms.take i, decide (y.name = s) = false }) (fun i => [(1, T s), (2, .rop 2 (Gr g)), (4, .raw 2), (6, I i.1)]) (fun _ => []) (fun i => g.syms.length - i.1) ⟨0, by simp⟩ (by simp [E2]) rfl ?_
  rintro ⟨i, hi, hn⟩
  ((try simp only [↓ S2, S2, vIte, ↓reduceIte, Int.reduceNe, Nat.reduceEqDiff, reduceCtorEq, Nat.reduceLeDiff, Nat.reduceAdd, Nat.reduceLT]); (repeat (simp only [brGen]; try simp only [↓ S2, S2, vIte, ↓reduceIte, Int.reduceNe, Nat.reduceEqDiff, reduceCtorEq, Nat.reduceLeDiff, Nat.reduceAdd, Nat.reduceLT])); (try simp +contextual (disch := omega) only [Z2]); (repeat' (first | (with_reducible intro h) | (with_reducible refine And.intro (by omega) ?_) | (with_reducible refine exP (by omega) ?_) | (with_reducible apply And.intro))))
  · subst h
    refine callS.eq (w158 g.syms[i] (hg.2.2.1 _ (List.getElem_mem _))) ?_
    ((try simp only [↓ S2, S2, vIte, ↓reduceIte, Int.reduceNe, Nat.reduceEqDiff, reduceCtorEq, Nat.reduceLeDiff, Nat.reduceAdd, Nat.reduceLT]); (repeat (simp only [brGen]; try simp only [↓ S2, S2, vIte, ↓reduceIte, Int.reduceNe, Nat.reduceEqDiff, reduceCtorEq, Nat.reduceLeDiff, Nat.reduceAdd, Nat.reduceLT])); (try simp +contextual (disch := omega) only [Z2]); (repeat' (first | (with_reducible intro h) | (with_reducible refine And.intro (by omega) ?_) | (with_reducible refine exP (by omega) ?_) | (with_reducible apply And.intro))))
    have e := find_hit (p := fun x : Sym => decide (x.name = g.syms[i].name)) (xs := g.syms) (i := i) (by assumption) (by simp) hn
    simp only [fSym, hSym, e]
    exact .refl
  · exact nx ⟨i + 1, by omega, take_step (by assumption) (by simp [*]) hn⟩ (by simp; omega) (by simp [E2]) rfl
  · have : i = g.syms.length := by omega
    subst this
    rw [List.take_of_length_le (Nat.le_refl _)] at hn
    have e := find_none hn
    simp only [fSym, hSym, e]
    exact .tup (.cons (.agg (.cons .refl (.cons .nil .nil))) (.cons .refl .nil))
theorem w118 (g : Sym) (s : ByteArray) (hg : smSy g) : Pure Try.prog 118 [Sy g, T s] (· = .tup [At (fAtt g.atts s), B (hAtt g.atts s)]) := by
  unfold smSy at hg
  refine gstart mxd i118 rfl (by simp) ?_; simp only [↓ S2, S2, vIte, ↓reduceIte, Int.reduceNe, Nat.reduceEqDiff, reduceCtorEq, Nat.reduceLeDiff, Nat.reduceAdd, Nat.reduceLT]
  refine wloop mxd (ι := { i : Nat // i ≤ g.atts.length ∧ ∀ y ∈ g.atts.take i, decide (y.name = s) = false }) (fun i => [(1, T s), (2, .rop 2 (Sy g)), (4, .raw 4), (6, I i.1)]) (fun _ => []) (fun i => g.atts.length - i.1) ⟨0, by simp⟩ (by simp [E2]) rfl ?_
  rintro ⟨i, hi, hn⟩
  ((try simp only [↓ S2, S2, vIte, ↓reduceIte, Int.reduceNe, Nat.reduceEqDiff, reduceCtorEq, Nat.reduceLeDiff, Nat.reduceAdd, Nat.reduceLT]); (repeat (simp only [brGen]; try simp only [↓ S2, S2, vIte, ↓reduceIte, Int.reduceNe, Nat.reduceEqDiff, reduceCtorEq, Nat.reduceLeDiff, Nat.reduceAdd, Nat.reduceLT])); (try simp +contextual (disch := omega) only [Z2]); (repeat' (first | (with_reducible intro h) | (with_reducible refine And.intro (by omega) ?_) | (with_reducible refine exP (by omega) ?_) | (with_reducible apply And.intro))))
  · subst h
    have e := find_hit (p := fun x : Att => decide (x.name = g.atts[i].name)) (xs := g.atts) (i := i) (by assumption) (by simp) hn
    simp only [fAtt, hAtt, e]
    rfl
  · exact nx ⟨i + 1, by omega, take_step (by assumption) (by simp [*]) hn⟩ (by simp; omega) (by simp [E2]) rfl
  · have : i = g.atts.length := by omega
    subst this
    rw [List.take_of_length_le (Nat.le_refl _)] at hn
    have e := find_none hn
    simp only [fAtt, hAtt, e]
    rfl
theorem w111 (g : Gram) (s : ByteArray) (hg : smGr g) : Pure Try.prog 111 [Gr g, T s] (· = .tup [Sy (fSym g.syms s), B (hSym g.syms s)]) := by
  refine Pure.bor ?_
  have hlen := hg.1
  refine gstart mxd i111 rfl (by simp) ?_; simp only [↓ S2, S2, vIte, ↓reduceIte, Int.reduceNe, Nat.reduceEqDiff, reduceCtorEq, Nat.reduceLeDiff, Nat.reduceAdd, Nat.reduceLT]
  refine wloop mxd (ι := { i : Nat // i ≤ g.syms.length ∧ ∀ y ∈ g.syms.take i, decide (y.name = s) = false }) (fun i => [(1, T s), (4, .raw 2), (9, SyS g.syms), (10, I g.syms.length), (11, I i.1)]) (fun _ => []) (fun i => g.syms.length - i.1) ⟨0, by simp⟩ (by simp [E2]) rfl ?_
  rintro ⟨i, hi, hn⟩
  ((try simp only [↓ S2, S2, vIte, ↓reduceIte, Int.reduceNe, Nat.reduceEqDiff, reduceCtorEq, Nat.reduceLeDiff, Nat.reduceAdd, Nat.reduceLT]); (repeat (simp only [brGen]; try simp only [↓ S2, S2, vIte, ↓reduceIte, Int.reduceNe, Nat.reduceEqDiff, reduceCtorEq, Nat.reduceLeDiff, Nat.reduceAdd, Nat.reduceLT])); (try simp +contextual (disch := omega) only [Z2]); (repeat' (first | (with_reducible intro h) | (with_reducible refine And.intro (by omega) ?_) | (with_reducible refine exP (by omega) ?_) | (with_reducible apply And.intro))))
  · subst h
    have e := find_hit (p := fun x : Sym => decide (x.name = g.syms[i].name)) (xs := g.syms) (i := i) (by assumption) (by simp) hn
    simp only [fSym, hSym, e]
    exact .refl
  · exact nx ⟨i + 1, by omega, take_step (by assumption) (by simp [*]) hn⟩ (by simp; omega) (by simp [E2]) rfl
  · have : i = g.syms.length := by omega
    subst this
    rw [List.take_of_length_le (Nat.le_refl _)] at hn
    have e := find_none hn
    simp only [fSym, hSym, e]
    exact .tup (.cons (.agg (.cons .refl (.cons .nil .nil))) (.cons .refl .nil))
theorem w112 (g : Sym) (s : ByteArray) (hg : smSy g) : Pure Try.prog 112 [Sy g, T s] (· = .tup [At (fAtt g.atts s), B (hAtt g.atts s)]) := by
  unfold smSy at hg
  refine gstart mxd i112 rfl (by simp) ?_; simp only [↓ S2, S2, vIte, ↓reduceIte, Int.reduceNe, Nat.reduceEqDiff, reduceCtorEq, Nat.reduceLeDiff, Nat.reduceAdd, Nat.reduceLT]
  refine wloop mxd (ι := { i : Nat // i ≤ g.atts.length ∧ ∀ y ∈ g.atts.take i, decide (y.name = s) = false }) (fun i => [(1, T s), (4, .raw 4), (9, AtS g.atts), (10, I g.atts.length), (11, I i.1)]) (fun _ => []) (fun i => g.atts.length - i.1) ⟨0, by simp⟩ (by simp [E2]) rfl ?_
  rintro ⟨i, hi, hn⟩
  ((try simp only [↓ S2, S2, vIte, ↓reduceIte, Int.reduceNe, Nat.reduceEqDiff, reduceCtorEq, Nat.reduceLeDiff, Nat.reduceAdd, Nat.reduceLT]); (repeat (simp only [brGen]; try simp only [↓ S2, S2, vIte, ↓reduceIte, Int.reduceNe, Nat.reduceEqDiff, reduceCtorEq, Nat.reduceLeDiff, Nat.reduceAdd, Nat.reduceLT])); (try simp +contextual (disch := omega) only [Z2]); (repeat' (first | (with_reducible intro h) | (with_reducible refine And.intro (by omega) ?_) | (with_reducible refine exP (by omega) ?_) | (with_reducible apply And.intro))))
  · subst h
    have e := find_hit (p := fun x : Att => decide (x.name = g.atts[i].name)) (xs := g.atts) (i := i) (by assumption) (by simp) hn
    simp only [fAtt, hAtt, e]
    rfl
  · exact nx ⟨i + 1, by omega, take_step (by assumption) (by simp [*]) hn⟩ (by simp; omega) (by simp [E2]) rfl
  · have : i = g.atts.length := by omega
    subst this
    rw [List.take_of_length_le (Nat.le_refl _)] at hn
    have e := find_none hn
    simp only [fAtt, hAtt, e]
    rfl
theorem w180 : ∀ (e : Exp), wEx e ≤ 1048576 → Pure Try.prog 180 [Ex e] (· = Ex e) := by
  refine Exp.indA fun e ih hw => ?_
  obtain ⟨hl, ha⟩ := args_small hw
  refine Pure.bor ?_
  refine gstart mxd i180 rfl (by simp) ?_; simp only [↓ S2, S2, vIte, ↓reduceIte, Int.reduceNe, Nat.reduceEqDiff, reduceCtorEq, Nat.reduceLeDiff, Nat.reduceAdd, Nat.reduceLT]
  ((try simp only [↓ S2, S2, vIte, ↓reduceIte, Int.reduceNe, Nat.reduceEqDiff, reduceCtorEq, Nat.reduceLeDiff, Nat.reduceAdd, Nat.reduceLT, XE]); (repeat (simp only [brGen]; try simp only [↓ S2, S2, vIte, ↓reduceIte, Int.reduceNe, Nat.reduceEqDiff, reduceCtorEq, Nat.reduceLeDiff, Nat.reduceAdd, Nat.reduceLT, XE])); (try simp +contextual (disch := omega) only [Z2]); (repeat' (first | (with_reducible intro h) | (with_reducible refine And.intro (by omega) ?_) | (with_reducible refine exP (by omega) ?_) | (with_reducible apply And.intro))))
  rename_i r hr q
  have h0 := neH_of h
  (replace h0 := h0; simp only [neH_cons, neH_nil, neA_cons, neA_nil, and_true, true_and] at h0)
  refine ploop mxd (ι := { x : Nat × Nat // x.2 ≤ e.args.length }) (fun x => [(1, .ptr r 7 0 0), (2, .raw 7), (3, .own x.1.1 7 0 x.1.2), (4, I x.1.2)]) (fun x => [(x.1.1, 7, (e.args.take x.1.2).map Ex), (r, 7, [Ex e])]) (fun x => e.args.length - x.1.2) ⟨(q, 0), by simp⟩ (by simp [E2]) (by simp [subH, hget, names, h0]) ?_
  rintro ⟨⟨q, i⟩, hi⟩ hn
  dsimp only at hi hn ⊢
  (replace hn := hn; simp only [neH_cons, neH_nil, neA_cons, neA_nil, and_true, true_and] at hn)
  ((try simp only [↓ S2, S2, vIte, ↓reduceIte, Int.reduceNe, Nat.reduceEqDiff, reduceCtorEq, Nat.reduceLeDiff, Nat.reduceAdd, Nat.reduceLT, XE, hget_c, hset_c, hdel_c, hn, t_ldf]); (repeat (simp only [brGen]; try simp only [↓ S2, S2, vIte, ↓reduceIte, Int.reduceNe, Nat.reduceEqDiff, reduceCtorEq, Nat.reduceLeDiff, Nat.reduceAdd, Nat.reduceLT, XE, hget_c, hset_c, hdel_c, hn, t_ldf])); (try simp +contextual (disch := omega) only [Z2]); (repeat' (first | (with_reducible intro h) | (with_reducible refine And.intro (by omega) ?_) | (with_reducible refine exP (by omega) ?_) | (with_reducible apply And.intro))))
  · refine callS.eq (ih _ (List.getElem_mem _) (ha _ (List.getElem_mem _))) ?_
    ((try simp only [↓ S2, S2, vIte, ↓reduceIte, Int.reduceNe, Nat.reduceEqDiff, reduceCtorEq, Nat.reduceLeDiff, Nat.reduceAdd, Nat.reduceLT, XE, hget_c, hset_c, hdel_c, hn, t_ldf]); (repeat (simp only [brGen]; try simp only [↓ S2, S2, vIte, ↓reduceIte, Int.reduceNe, Nat.reduceEqDiff, reduceCtorEq, Nat.reduceLeDiff, Nat.reduceAdd, Nat.reduceLT, XE, hget_c, hset_c, hdel_c, hn, t_ldf])); (try simp +contextual (disch := omega) only [Z2]); (repeat' (first | (with_reducible intro h) | (with_reducible refine And.intro (by omega) ?_) | (with_reducible refine exP (by omega) ?_) | (with_reducible apply And.intro))))
    rename_i q2
    have h2 := neH_of h
    (replace h2 := h2; simp only [neH_cons, neH_nil, neA_cons, neA_nil, and_true, true_and] at h2)
    ((try simp only [↓ S2, S2, vIte, ↓reduceIte, Int.reduceNe, Nat.reduceEqDiff, reduceCtorEq, Nat.reduceLeDiff, Nat.reduceAdd, Nat.reduceLT, XE, hget_c, hset_c, hdel_c, hn, h2, t_ldf]); (repeat (simp only [brGen]; try simp only [↓ S2, S2, vIte, ↓reduceIte, Int.reduceNe, Nat.reduceEqDiff, reduceCtorEq, Nat.reduceLeDiff, Nat.reduceAdd, Nat.reduceLT, XE, hget_c, hset_c, hdel_c, hn, h2, t_ldf])); (try simp +contextual (disch := omega) only [Z2]); (repeat' (first | (with_reducible intro h) | (with_reducible refine And.intro (by omega) ?_) | (with_reducible refine exP (by omega) ?_) | (with_reducible apply And.intro))))
    · simp; omega
    rename_i q3
    have h3 := neH_of h
    (replace h3 := h3; simp only [neH_cons, neH_nil, neA_cons, neA_nil, and_true, true_and] at h3)
    rw [takeApp Ex e.args i (by assumption)]
    exact px ⟨(q3, i + 1), by omega⟩ (by simp; omega) (by simp [E2]) (by simp [subH, hget, names, h3])
  · rw [Ex_eq e]
    refine .agg (.cons .refl (.cons .refl (.cons .refl (.cons .refl (.cons .refl (.cons .refl (.cons ?_ .nil)))))))
    have : i = e.args.length := by omega
    subst this
    rw [List.take_length]
    exact Bor.allM view_Ex hget_new rfl
theorem w98 (g : Gram) (s : ByteArray) (hg : smGr g) : Pure Try.prog 98 [Gr g, T s] (· = .tup [Ru (fRul g.rules s), B (hRul g.rules s)]) := by
  refine Pure.bor ?_
  have hlen := hg.2.1
  refine gstart mxd i98 rfl (by simp) ?_; simp only [↓ S2, S2, vIte, ↓reduceIte, Int.reduceNe, Nat.reduceEqDiff, reduceCtorEq, Nat.reduceLeDiff, Nat.reduceAdd, Nat.reduceLT]
  refine wloop mxd (ι := { i : Nat // i ≤ g.rules.length ∧ ∀ y ∈ g.rules.take i, decide (y.name = s) = false }) (fun i => [(1, T s), (4, .raw 6), (9, RuS g.rules), (10, I g.rules.length), (11, I i.1)]) (fun _ => []) (fun i => g.rules.length - i.1) ⟨0, by simp⟩ (by simp [E2]) rfl ?_
  rintro ⟨i, hi, hn⟩
  ((try simp only [↓ S2, S2, vIte, ↓reduceIte, Int.reduceNe, Nat.reduceEqDiff, reduceCtorEq, Nat.reduceLeDiff, Nat.reduceAdd, Nat.reduceLT]); (repeat (simp only [brGen]; try simp only [↓ S2, S2, vIte, ↓reduceIte, Int.reduceNe, Nat.reduceEqDiff, reduceCtorEq, Nat.reduceLeDiff, Nat.reduceAdd, Nat.reduceLT])); (try simp +contextual (disch := omega) only [Z2]); (repeat' (first | (with_reducible intro h) | (with_reducible refine And.intro (by omega) ?_) | (with_reducible refine exP (by omega) ?_) | (with_reducible apply And.intro))))
  · subst h
    have e := find_hit (p := fun x : Rul => decide (x.name = g.rules[i].name)) (xs := g.rules) (i := i) (by assumption) (by simp) hn
    simp only [fRul, hRul, e]
    exact .refl
  · exact nx ⟨i + 1, by omega, take_step (by assumption) (by simp [*]) hn⟩ (by simp; omega) (by simp [E2]) rfl
  · have : i = g.rules.length := by omega
    subst this
    rw [List.take_of_length_le (Nat.le_refl _)] at hn
    have e := find_none hn
    simp only [fRul, hRul, e]
    exact .tup (.cons (.agg (.cons .refl (.cons .refl (.cons .nil (.cons .refl (.cons .nil (.cons .nil .nil))))))) (.cons .refl .nil))
end Go.Proofs.Ytajhihnbnonadaa

namespace Go.Proofs.Ytajhihnbnonadaa
open Go.Gh
set_option maxRecDepth 20000
set_option linter.unusedSimpArgs false
set_option linter.unusedVariables false
theorem w69 (t : List Nod) (i : Int) : Pure Try.prog 69 [Tr t, I i] (· = B (decide (0 ≤ i ∧ i < t.length))) := by
  refine GCalls.lenA fun hl => ?_
  obtain ⟨hlen, _⟩ := lenTr hl.1
  refine gstart mxd i69 rfl (by simp) ?_; simp only [↓ S2, S2, vIte, ↓reduceIte, Int.reduceNe, Nat.reduceEqDiff, reduceCtorEq, Nat.reduceLeDiff, Nat.reduceAdd, Nat.reduceLT]
  refine callS.eq (w72 _ _ _) ?_
  ((try simp only [↓ S2, S2, vIte, ↓reduceIte, Int.reduceNe, Nat.reduceEqDiff, reduceCtorEq, Nat.reduceLeDiff, Nat.reduceAdd, Nat.reduceLT]); (repeat (simp only [brGen]; try simp only [↓ S2, S2, vIte, ↓reduceIte, Int.reduceNe, Nat.reduceEqDiff, reduceCtorEq, Nat.reduceLeDiff, Nat.reduceAdd, Nat.reduceLT])); (try simp +contextual (disch := omega) only [Z2]); (repeat' (first | (with_reducible intro h) | (with_reducible refine And.intro (by omega) ?_) | (with_reducible refine exP (by omega) ?_) | (with_reducible apply And.intro))))
  exact bEq (by omega)
end Go.Proofs.Ytajhihnbnonadaa

namespace Go.Proofs.Ytajhihnbnonadaa
open Go.Gh
set_option maxRecDepth 20000
set_option linter.unusedSimpArgs false
set_option linter.unusedVariables false
theorem w149 (e : Rul) (hr : smRu e) : Pure Try.prog 149 [Ru e] (· = Ru e) := by
  obtain ⟨h1, h2, h3, h4, h5⟩ := hr
  refine Pure.bor ?_
  refine gstart mxd i149 rfl (by simp) ?_; simp only [↓ S2, S2, vIte, ↓reduceIte, Int.reduceNe, Nat.reduceEqDiff, reduceCtorEq, Nat.reduceLeDiff, Nat.reduceAdd, Nat.reduceLT]
  ((try simp only [↓ S2, S2, vIte, ↓reduceIte, Int.reduceNe, Nat.reduceEqDiff, reduceCtorEq, Nat.reduceLeDiff, Nat.reduceAdd, Nat.reduceLT, XE]); (repeat (simp only [brGen]; try simp only [↓ S2, S2, vIte, ↓reduceIte, Int.reduceNe, Nat.reduceEqDiff, reduceCtorEq, Nat.reduceLeDiff, Nat.reduceAdd, Nat.reduceLT, XE])); (try simp +contextual (disch := omega) only [Z2]); (repeat' (first | (with_reducible intro h) | (with_reducible refine And.intro (by omega) ?_) | (with_reducible refine exP (by omega) ?_) | (with_reducible apply And.intro))))
  rename_i ra _ rr _ r0
  have h0 := neH_of h
  (replace h0 := h0; simp only [neH_cons, neH_nil, neA_cons, neA_nil, and_true, true_and] at h0)
  obtain ⟨v, ho, hv⟩ := vfresh [r0, rr]
  refine ploopF mxd (ι := { x : Nat × Nat // x.2 ≤ e.eqs.length }) (fun x => [(1, .rop 6 (Ru e)), (2, .raw 6), (3, .ptr r0 6 0 0), (4, I x.1.2)])
    (fun x => [(x.1.1, 9, (e.eqs.take x.1.2).map Qn), (r0, 6, [.agg [T e.name, T e.left, .own rr 1 0 e.right.length, B e.lit, .own x.1.1 9 0 x.1.2, .val (.slice none 0 0)]]), (rr, 1, e.right.map T)])
    (fun x => e.eqs.length - x.1.2) ⟨(v, 0), by simp⟩ (FE.virtF (i := 0) (j := 4) (sz1 := 9) hget_new rfl rfl ho hv) (by simp [E2]) ?_ ?_
  · simp only [List.mem_cons, List.not_mem_nil, or_false, not_or] at hv
    simp [subH, hget, hset, names, h0, hv]
  rintro ⟨⟨q, i⟩, hi⟩ hn
  dsimp only at hi hn ⊢
  (replace hn := hn; simp only [neH_cons, neH_nil, neA_cons, neA_nil, and_true, true_and] at hn)
  ((try simp only [↓ S2, S2, vIte, ↓reduceIte, Int.reduceNe, Nat.reduceEqDiff, reduceCtorEq, Nat.reduceLeDiff, Nat.reduceAdd, Nat.reduceLT, XE, hget_c, hset_c, hdel_c, hn, t_ldf]); (repeat (simp only [brGen]; try simp only [↓ S2, S2, vIte, ↓reduceIte, Int.reduceNe, Nat.reduceEqDiff, reduceCtorEq, Nat.reduceLeDiff, Nat.reduceAdd, Nat.reduceLT, XE, hget_c, hset_c, hdel_c, hn, t_ldf])); (try simp +contextual (disch := omega) only [Z2]); (repeat' (first | (with_reducible intro h) | (with_reducible refine And.intro (by omega) ?_) | (with_reducible refine exP (by omega) ?_) | (with_reducible apply And.intro))))
  · refine callS.eq (w180 _ (h4 _ (List.getElem_mem _))) ?_
    ((try simp only [↓ S2, S2, vIte, ↓reduceIte, Int.reduceNe, Nat.reduceEqDiff, reduceCtorEq, Nat.reduceLeDiff, Nat.reduceAdd, Nat.reduceLT, XE, hget_c, hset_c, hdel_c, hn, t_ldf]); (repeat (simp only [brGen]; try simp only [↓ S2, S2, vIte, ↓reduceIte, Int.reduceNe, Nat.reduceEqDiff, reduceCtorEq, Nat.reduceLeDiff, Nat.reduceAdd, Nat.reduceLT, XE, hget_c, hset_c, hdel_c, hn, t_ldf])); (try simp +contextual (disch := omega) only [Z2]); (repeat' (first | (with_reducible intro h) | (with_reducible refine And.intro (by omega) ?_) | (with_reducible refine exP (by omega) ?_) | (with_reducible apply And.intro))))
    rename_i q2
    have h2 := neH_of h
    (replace h2 := h2; simp only [neH_cons, neH_nil, neA_cons, neA_nil, and_true, true_and] at h2)
    ((try simp only [↓ S2, S2, vIte, ↓reduceIte, Int.reduceNe, Nat.reduceEqDiff, reduceCtorEq, Nat.reduceLeDiff, Nat.reduceAdd, Nat.reduceLT, XE, hget_c, hset_c, hdel_c, hn, h2, t_ldf]); (repeat (simp only [brGen]; try simp only [↓ S2, S2, vIte, ↓reduceIte, Int.reduceNe, Nat.reduceEqDiff, reduceCtorEq, Nat.reduceLeDiff, Nat.reduceAdd, Nat.reduceLT, XE, hget_c, hset_c, hdel_c, hn, h2, t_ldf])); (try simp +contextual (disch := omega) only [Z2]); (repeat' (first | (with_reducible intro h) | (with_reducible refine And.intro (by omega) ?_) | (with_reducible refine exP (by omega) ?_) | (with_reducible apply And.intro))))
    · simp; omega
    rename_i q3
    have h3 := neH_of h
    (replace h3 := h3; simp only [neH_cons, neH_nil, neA_cons, neA_nil, and_true, true_and] at h3)
    ((try simp only [↓ S2, S2, vIte, ↓reduceIte, Int.reduceNe, Nat.reduceEqDiff, reduceCtorEq, Nat.reduceLeDiff, Nat.reduceAdd, Nat.reduceLT, XE, hget_c, hset_c, hdel_c, hn, h2, h3, t_ldf]); (repeat (simp only [brGen]; try simp only [↓ S2, S2, vIte, ↓reduceIte, Int.reduceNe, Nat.reduceEqDiff, reduceCtorEq, Nat.reduceLeDiff, Nat.reduceAdd, Nat.reduceLT, XE, hget_c, hset_c, hdel_c, hn, h2, h3, t_ldf])); (try simp +contextual (disch := omega) only [Z2]); (repeat' (first | (with_reducible intro h) | (with_reducible refine And.intro (by omega) ?_) | (with_reducible refine exP (by omega) ?_) | (with_reducible apply And.intro))))
    rw [takeApp Qn e.eqs i (by assumption)]
    exact px ⟨(q3, i + 1), by omega⟩ (by simp; omega) (by simp [E2]) (by simp [subH, hget, names, h3])
  · have : i = e.eqs.length := by omega
    subst this
    rw [List.take_length]
    obtain ⟨v, ho, hv⟩ := vfresh [q, r0, rr]
    refine ploopF mxd (ι := { x : Nat × Nat // x.2 ≤ e.cons.length }) (fun x => [(1, .rop 6 (Ru e)), (2, .raw 6), (3, .ptr r0 6 0 0), (5, I x.1.2)])
      (fun x => [(x.1.1, 16, (e.cons.take x.1.2).map Co), (q, 9, e.eqs.map Qn), (r0, 6, [.agg [T e.name, T e.left, .own rr 1 0 e.right.length, B e.lit, .own q 9 0 e.eqs.length, .own x.1.1 16 0 x.1.2]]), (rr, 1, e.right.map T)])
      (fun x => e.cons.length - x.1.2) ⟨(v, 0), by simp⟩ (FE.virtF (r := r0) (i := 0) (j := 5) (sz1 := 16) (by simp [hget, hn]; exact ⟨rfl, rfl⟩) rfl rfl ho hv) (by simp [E2]) ?_ ?_
    · simp only [List.mem_cons, List.not_mem_nil, or_false, not_or] at hv
      simp [subH, hget, hset, names, hn, hv]
    rintro ⟨⟨p, i⟩, hi⟩ hn
    dsimp only at hi hn ⊢
    (replace hn := hn; simp only [neH_cons, neH_nil, neA_cons, neA_nil, and_true, true_and] at hn)
    ((try simp only [↓ S2, S2, vIte, ↓reduceIte, Int.reduceNe, Nat.reduceEqDiff, reduceCtorEq, Nat.reduceLeDiff, Nat.reduceAdd, Nat.reduceLT, XE, hget_c, hset_c, hdel_c, hn, t_ldf]); (repeat (simp only [brGen]; try simp only [↓ S2, S2, vIte, ↓reduceIte, Int.reduceNe, Nat.reduceEqDiff, reduceCtorEq, Nat.reduceLeDiff, Nat.reduceAdd, Nat.reduceLT, XE, hget_c, hset_c, hdel_c, hn, t_ldf])); (try simp +contextual (disch := omega) only [Z2]); (repeat' (first | (with_reducible intro h) | (with_reducible refine And.intro (by omega) ?_) | (with_reducible refine exP (by omega) ?_) | (with_reducible apply And.intro))))
    · refine callS.eq (w180 _ (h5 _ (List.getElem_mem _)).1) ?_
      ((try simp only [↓ S2, S2, vIte, ↓reduceIte, Int.reduceNe, Nat.reduceEqDiff, reduceCtorEq, Nat.reduceLeDiff, Nat.reduceAdd, Nat.reduceLT, XE, hget_c, hset_c, hdel_c, hn, t_ldf]); (repeat (simp only [brGen]; try simp only [↓ S2, S2, vIte, ↓reduceIte, Int.reduceNe, Nat.reduceEqDiff, reduceCtorEq, Nat.reduceLeDiff, Nat.reduceAdd, Nat.reduceLT, XE, hget_c, hset_c, hdel_c, hn, t_ldf])); (try simp +contextual (disch := omega) only [Z2]); (repeat' (first | (with_reducible intro h) | (with_reducible refine And.intro (by omega) ?_) | (with_reducible refine exP (by omega) ?_) | (with_reducible apply And.intro))))
      refine callS.eq (w180 _ (h5 _ (List.getElem_mem _)).2) ?_
      ((try simp only [↓ S2, S2, vIte, ↓reduceIte, Int.reduceNe, Nat.reduceEqDiff, reduceCtorEq, Nat.reduceLeDiff, Nat.reduceAdd, Nat.reduceLT, XE, hget_c, hset_c, hdel_c, hn, t_ldf]); (repeat (simp only [brGen]; try simp only [↓ S2, S2, vIte, ↓reduceIte, Int.reduceNe, Nat.reduceEqDiff, reduceCtorEq, Nat.reduceLeDiff, Nat.reduceAdd, Nat.reduceLT, XE, hget_c, hset_c, hdel_c, hn, t_ldf])); (try simp +contextual (disch := omega) only [Z2]); (repeat' (first | (with_reducible intro h) | (with_reducible refine And.intro (by omega) ?_) | (with_reducible refine exP (by omega) ?_) | (with_reducible apply And.intro))))
      rename_i q2
      have h2 := neH_of h
      (replace h2 := h2; simp only [neH_cons, neH_nil, neA_cons, neA_nil, and_true, true_and] at h2)
      ((try simp only [↓ S2, S2, vIte, ↓reduceIte, Int.reduceNe, Nat.reduceEqDiff, reduceCtorEq, Nat.reduceLeDiff, Nat.reduceAdd, Nat.reduceLT, XE, hget_c, hset_c, hdel_c, hn, h2, t_ldf]); (repeat (simp only [brGen]; try simp only [↓ S2, S2, vIte, ↓reduceIte, Int.reduceNe, Nat.reduceEqDiff, reduceCtorEq, Nat.reduceLeDiff, Nat.reduceAdd, Nat.reduceLT, XE, hget_c, hset_c, hdel_c, hn, h2, t_ldf])); (try simp +contextual (disch := omega) only [Z2]); (repeat' (first | (with_reducible intro h) | (with_reducible refine And.intro (by omega) ?_) | (with_reducible refine exP (by omega) ?_) | (with_reducible apply And.intro))))
      · simp; omega
      rename_i q3
      have h3 := neH_of h
      (replace h3 := h3; simp only [neH_cons, neH_nil, neA_cons, neA_nil, and_true, true_and] at h3)
      ((try simp only [↓ S2, S2, vIte, ↓reduceIte, Int.reduceNe, Nat.reduceEqDiff, reduceCtorEq, Nat.reduceLeDiff, Nat.reduceAdd, Nat.reduceLT, XE, hget_c, hset_c, hdel_c, hn, h2, h3, t_ldf]); (repeat (simp only [brGen]; try simp only [↓ S2, S2, vIte, ↓reduceIte, Int.reduceNe, Nat.reduceEqDiff, reduceCtorEq, Nat.reduceLeDiff, Nat.reduceAdd, Nat.reduceLT, XE, hget_c, hset_c, hdel_c, hn, h2, h3, t_ldf])); (try simp +contextual (disch := omega) only [Z2]); (repeat' (first | (with_reducible intro h) | (with_reducible refine And.intro (by omega) ?_) | (with_reducible refine exP (by omega) ?_) | (with_reducible apply And.intro))))
      rw [takeApp Co e.cons i (by assumption)]
      exact px ⟨(q3, i + 1), by omega⟩ (by simp; omega) (by simp [E2]) (by simp [subH, hget, names, h3])
    · have : i = e.cons.length := by omega
      subst this
      rw [List.take_length]
      exact .agg (.cons .refl (.cons .refl (.cons (Bor.allM (fun _ => rfl) (by simp [hget, hn]) rfl) (.cons .refl (.cons (Bor.allM (fun _ => rfl) (by simp [hget, hn]) rfl) (.cons (Bor.allM (fun _ => rfl) (by simp [hget, hn]) rfl) .nil))))))
theorem w97 (g : Gram) (s : ByteArray) (hg : smGr g) : Pure Try.prog 97 [Gr g, T s] (· = .tup [Ru (fRul g.rules s), B (hRul g.rules s)]) := by
  refine Pure.bor ?_
  have hlen := hg.2.1
  refine gstart mxd i97 rfl (by simp) ?_; simp only [↓ S2, S2, vIte, ↓reduceIte, Int.reduceNe, Nat.reduceEqDiff, reduceCtorEq, Nat.reduceLeDiff, Nat.reduceAdd, Nat.reduceLT]
  refine wloop mxd (ι := { i : Nat // i ≤ g.rules.length ∧ ∀ y ∈ g.rules.take i, decide (y.name = s) = false }) (fun i => [(1, T s), (2, .rop 2 (Gr g)), (4, .raw 6), (6, I i.1)]) (fun _ => []) (fun i => g.rules.length - i.1) ⟨0, by simp⟩ (by simp [E2]) rfl ?_
  rintro ⟨i, hi, hn⟩
  ((try simp only [↓ S2, S2, vIte, ↓reduceIte, Int.reduceNe, Nat.reduceEqDiff, reduceCtorEq, Nat.reduceLeDiff, Nat.reduceAdd, Nat.reduceLT]); (repeat (simp only [brGen]; try simp only [↓ S2, S2, vIte, ↓reduceIte, Int.reduceNe, Nat.reduceEqDiff, reduceCtorEq, Nat.reduceLeDiff, Nat.reduceAdd, Nat.reduceLT])); (try simp +contextual (disch := omega) only [Z2]); (repeat' (first | (with_reducible intro h) | (with_reducible refine And.intro (by omega) ?_) | (with_reducible refine exP (by omega) ?_) | (with_reducible apply And.intro))))
  · subst h
    refine callS.eq (w149 g.rules[i] (hg.2.2.2 _ (List.getElem_mem _))) ?_
    ((try simp only [↓ S2, S2, vIte, ↓reduceIte, Int.reduceNe, Nat.reduceEqDiff, reduceCtorEq, Nat.reduceLeDiff, Nat.reduceAdd, Nat.reduceLT]); (repeat (simp only [brGen]; try simp only [↓ S2, S2, vIte, ↓reduceIte, Int.reduceNe, Nat.reduceEqDiff, reduceCtorEq, Nat.reduceLeDiff, Nat.reduceAdd, Nat.reduceLT])); (try simp +contextual (disch := omega) only [Z2]); (repeat' (first | (with_reducible intro h) | (with_reducible refine And.intro (by omega) ?_) | (with_reducible refine exP (by omega) ?_) | (with_reducible apply And.intro))))
    have e := find_hit (p := fun x : Rul => decide (x.name = g.rules[i].name)) (xs := g.rules) (i := i) (by assumption) (by simp) hn
    simp only [fRul, hRul, e]
    exact .refl
  · exact nx ⟨i + 1, by omega, take_step (by assumption) (by simp [*]) hn⟩ (by simp; omega) (by simp [E2]) rfl
  · have : i = g.rules.length := by omega
    subst this
    rw [List.take_of_length_le (Nat.le_refl _)] at hn
    have e := find_none hn
    simp only [fRul, hRul, e]
    exact .tup (.cons (.agg (.cons .refl (.cons .refl (.cons .nil (.cons .refl (.cons .nil (.cons .nil .nil))))))) (.cons .refl .nil))
theorem w42 (g : Gram) (t : List Nod) (i : Int) (hg : smGr g) : Pure Try.prog 42 [Gr g, Tr t, I i] (· = T (symN g t i)) := by
  refine GCalls.lenA fun hl => ?_
  obtain ⟨hlen, _⟩ := lenTr hl.2.1
  refine gstart mxd i42 rfl (by simp) ?_; simp only [↓ S2, S2, vIte, ↓reduceIte, Int.reduceNe, Nat.reduceEqDiff, reduceCtorEq, Nat.reduceLeDiff, Nat.reduceAdd, Nat.reduceLT]
  by_cases h : 0 ≤ i ∧ i < t.length
  · obtain ⟨i, rfl⟩ : ∃ k : Nat, i = k := ⟨i.toNat, by omega⟩
    have hi : i < t.length := by omega
    rw [symN_in hi]
    (repeat' (first | (with_reducible refine callS.eq (w92 _ _ _) ?_) | (with_reducible refine callS.eq (w97 _ _ hg) ?_) | simp only [↓ S2, S2, vIte, ↓reduceIte, Int.reduceNe, Nat.reduceEqDiff, reduceCtorEq, Nat.reduceLeDiff, Nat.reduceAdd, Nat.reduceLT] | simp only [brGen] | simp +contextual (disch := omega) only [Z2] | (with_reducible intro h) | (with_reducible refine And.intro (by omega) ?_) | (with_reducible refine exP (by omega) ?_) | (with_reducible apply And.intro)))
    all_goals first | rfl | (exfalso; omega)
  · rw [symN_out h]
    (repeat' (first | (with_reducible refine callS.eq (w92 _ _ _) ?_) | (with_reducible refine callS.eq (w97 _ _ hg) ?_) | simp only [↓ S2, S2, vIte, ↓reduceIte, Int.reduceNe, Nat.reduceEqDiff, reduceCtorEq, Nat.reduceLeDiff, Nat.reduceAdd, Nat.reduceLT] | simp only [brGen] | simp +contextual (disch := omega) only [Z2] | (with_reducible intro h) | (with_reducible refine And.intro (by omega) ?_) | (with_reducible refine exP (by omega) ?_) | (with_reducible apply And.intro)))
    all_goals first | rfl | (exfalso; omega)
theorem w43 (g : Gram) (t : List Nod) (i : Int) (hg : smGr g) : Pure Try.prog 43 [Gr g, Tr t, I i] (· = T (symN g t i)) := by
  refine GCalls.lenA fun hl => ?_
  obtain ⟨hlen, _⟩ := lenTr hl.2.1
  refine gstart mxd i43 rfl (by simp) ?_; simp only [↓ S2, S2, vIte, ↓reduceIte, Int.reduceNe, Nat.reduceEqDiff, reduceCtorEq, Nat.reduceLeDiff, Nat.reduceAdd, Nat.reduceLT]
  by_cases h : 0 ≤ i ∧ i < t.length
  · obtain ⟨i, rfl⟩ : ∃ k : Nat, i = k := ⟨i.toNat, by omega⟩
    have hi : i < t.length := by omega
    rw [symN_in hi]
    (repeat' (first | (with_reducible refine callS.eq (w69 _ _) ?_) | (with_reducible refine callS.eq (w98 _ _ hg) ?_) | simp only [↓ S2, S2, vIte, ↓reduceIte, Int.reduceNe, Nat.reduceEqDiff, reduceCtorEq, Nat.reduceLeDiff, Nat.reduceAdd, Nat.reduceLT] | simp only [brGen] | simp +contextual (disch := omega) only [Z2] | (with_reducible intro h) | (with_reducible refine And.intro (by omega) ?_) | (with_reducible refine exP (by omega) ?_) | (with_reducible apply And.intro)))
    all_goals first | rfl | (exfalso; omega)
  · rw [symN_out h]
    (repeat' (first | (with_reducible refine callS.eq (w69 _ _) ?_) | (with_reducible refine callS.eq (w98 _ _ hg) ?_) | simp only [↓ S2, S2, vIte, ↓reduceIte, Int.reduceNe, Nat.reduceEqDiff, reduceCtorEq, Nat.reduceLeDiff, Nat.reduceAdd, Nat.reduceLT] | simp only [brGen] | simp +contextual (disch := omega) only [Z2] | (with_reducible intro h) | (with_reducible refine And.intro (by omega) ?_) | (with_reducible refine exP (by omega) ?_) | (with_reducible apply And.intro)))
    all_goals first | rfl | (exfalso; omega)
theorem w52 (g : Gram) (t : List Nod) (x : Int × ByteArray) (hg : smGr g) : Pure Try.prog 52 [Gr g, Tr t, Ins x] (· = .tup [At (attN g t x.1 x.2), B (hasN g t x.1 x.2)]) := by
  refine gstart mxd i52 rfl (by simp) ?_; simp only [↓ S2, S2, vIte, ↓reduceIte, Int.reduceNe, Nat.reduceEqDiff, reduceCtorEq, Nat.reduceLeDiff, Nat.reduceAdd, Nat.reduceLT]
  (repeat' (first | (with_reducible refine callS.eq (w119 _ _) ?_) | (with_reducible refine callS.eq (w43 _ _ _ hg) ?_) | (with_reducible refine callS.eq (w111 _ _ hg) ?_) | (with_reducible refine callS.eq (w112 _ _ (smSy_f hg _)) ?_) | simp only [↓ S2, S2, vIte, ↓reduceIte, Int.reduceNe, Nat.reduceEqDiff, reduceCtorEq, Nat.reduceLeDiff, Nat.reduceAdd, Nat.reduceLT] | simp only [brGen] | simp +contextual (disch := omega) only [Z2] | (with_reducible intro h) | (with_reducible refine And.intro (by omega) ?_) | (with_reducible refine exP (by omega) ?_) | (with_reducible apply And.intro)))
  all_goals simp only [attN, hasN]
  · rw [if_neg (by omega), if_neg (by omega)]; rfl
  · rw [if_pos (by omega), if_pos (by omega)]
theorem w50 (g : Gram) (t : List Nod) (x : Int × ByteArray) (hg : smGr g) : Pure Try.prog 50 [Gr g, Tr t, Ins x] (· = .tup [At (attN g t x.1 x.2), B (hasN g t x.1 x.2)]) := by
  refine gstart mxd i50 rfl (by simp) ?_; simp only [↓ S2, S2, vIte, ↓reduceIte, Int.reduceNe, Nat.reduceEqDiff, reduceCtorEq, Nat.reduceLeDiff, Nat.reduceAdd, Nat.reduceLT]
  (repeat' (first | (with_reducible refine callS.eq (w116 _ _) ?_) | (with_reducible refine callS.eq (w42 _ _ _ hg) ?_) | (with_reducible refine callS.eq (w117 _ _ hg) ?_) | (with_reducible refine callS.eq (w118 _ _ (smSy_f hg _)) ?_) | simp only [↓ S2, S2, vIte, ↓reduceIte, Int.reduceNe, Nat.reduceEqDiff, reduceCtorEq, Nat.reduceLeDiff, Nat.reduceAdd, Nat.reduceLT] | simp only [brGen] | simp +contextual (disch := omega) only [Z2] | (with_reducible intro h) | (with_reducible refine And.intro (by omega) ?_) | (with_reducible refine exP (by omega) ?_) | (with_reducible apply And.intro)))
  all_goals simp only [attN, hasN]
  · rw [if_neg (by omega), if_neg (by omega)]; rfl
  · rw [if_pos (by omega), if_pos (by omega)]
end Go.Proofs.Ytajhihnbnonadaa

namespace Go.Proofs.Ytajhihnbnonadaa
open Go.Gh
set_option maxRecDepth 20000
set_option linter.unusedSimpArgs false
set_option linter.unusedVariables false
theorem w49 (x : Int × ByteArray) (left : Int) (h0 : 0 ≤ left) (h1 : left ≤ 1048576) (hx : x.2.size ≤ maxLen) : Pure Try.prog 49 [Ins x, I left] (· = I (szv left (wOcc x))) := by
  simp only [maxLen, size_chars] at hx
  refine gstart mxd i49 rfl (by simp) ?_; simp only [↓ S2, S2, vIte, ↓reduceIte, Int.reduceNe, Nat.reduceEqDiff, reduceCtorEq, Nat.reduceLeDiff, Nat.reduceAdd, Nat.reduceLT]
  ((try simp only [↓ S2, S2, vIte, ↓reduceIte, Int.reduceNe, Nat.reduceEqDiff, reduceCtorEq, Nat.reduceLeDiff, Nat.reduceAdd, Nat.reduceLT]); (repeat (simp only [brGen]; try simp only [↓ S2, S2, vIte, ↓reduceIte, Int.reduceNe, Nat.reduceEqDiff, reduceCtorEq, Nat.reduceLeDiff, Nat.reduceAdd, Nat.reduceLT])); (try simp +contextual (disch := omega) only [Z2]); (repeat' (first | (with_reducible intro h) | (with_reducible refine And.intro (by omega) ?_) | (with_reducible refine exP (by omega) ?_) | (with_reducible apply And.intro)))) <;> (congr 2; simp only [szv, wOcc]; omega)
theorem w51 (x : Int × ByteArray) : Pure Try.prog 51 [Ins x] (· = Ins x) := by
  refine gstart mxd i51 rfl (by simp) ?_; simp only [↓ S2, S2, vIte, ↓reduceIte, Int.reduceNe, Nat.reduceEqDiff, reduceCtorEq, Nat.reduceLeDiff, Nat.reduceAdd, Nat.reduceLT]
  ((try simp only [↓ S2, S2, vIte, ↓reduceIte, Int.reduceNe, Nat.reduceEqDiff, reduceCtorEq, Nat.reduceLeDiff, Nat.reduceAdd, Nat.reduceLT]); (repeat (simp only [brGen]; try simp only [↓ S2, S2, vIte, ↓reduceIte, Int.reduceNe, Nat.reduceEqDiff, reduceCtorEq, Nat.reduceLeDiff, Nat.reduceAdd, Nat.reduceLT])); (try simp +contextual (disch := omega) only [Z2]); (repeat' (first | (with_reducible intro h) | (with_reducible refine And.intro (by omega) ?_) | (with_reducible refine exP (by omega) ?_) | (with_reducible apply And.intro))))
theorem w10 (g : Gram) (t : List Nod) (x : Int × ByteArray) (hg : okGr g) (ht : ∀ x ∈ t, x.rule.size ≤ maxLen) (hx : x.2.size ≤ maxLen) : Pure Try.prog 10 [Gr g, Tr t, Ins x] (· = B true) := by
  refine gstart mxd i10 rfl (by simp) ?_; simp only [↓ S2, S2, vIte, ↓reduceIte, Int.reduceNe, Nat.reduceEqDiff, reduceCtorEq, Nat.reduceLeDiff, Nat.reduceAdd, Nat.reduceLT]
  refine callS.eq (w34 g _ (by omega) (by omega) hg) ?_
  ((try simp only [↓ S2, S2, vIte, ↓reduceIte, Int.reduceNe, Nat.reduceEqDiff, reduceCtorEq, Nat.reduceLeDiff, Nat.reduceAdd, Nat.reduceLT]); (repeat (simp only [brGen]; try simp only [↓ S2, S2, vIte, ↓reduceIte, Int.reduceNe, Nat.reduceEqDiff, reduceCtorEq, Nat.reduceLeDiff, Nat.reduceAdd, Nat.reduceLT])); (try simp +contextual (disch := omega) only [Z2]); (repeat' (first | (with_reducible intro h) | (with_reducible refine And.intro (by omega) ?_) | (with_reducible refine exP (by omega) ?_) | (with_reducible apply And.intro))))
  have h1 := szv_nn h
  have hs := smGr_of (g := g) (by omega)
  rw [szv_pos h1]
  refine callS.eq (w13 t _ (by omega) (by omega) ht) ?_
  ((try simp only [↓ S2, S2, vIte, ↓reduceIte, Int.reduceNe, Nat.reduceEqDiff, reduceCtorEq, Nat.reduceLeDiff, Nat.reduceAdd, Nat.reduceLT]); (repeat (simp only [brGen]; try simp only [↓ S2, S2, vIte, ↓reduceIte, Int.reduceNe, Nat.reduceEqDiff, reduceCtorEq, Nat.reduceLeDiff, Nat.reduceAdd, Nat.reduceLT])); (try simp +contextual (disch := omega) only [Z2]); (repeat' (first | (with_reducible intro h) | (with_reducible refine And.intro (by omega) ?_) | (with_reducible refine exP (by omega) ?_) | (with_reducible apply And.intro))))
  have hb := szTr h (by omega)
  have h2 := szv_nn h
  rw [szv_pos h2]
  refine callS.eq (w49 x _ (by omega) (by omega) hx) ?_
  ((try simp only [↓ S2, S2, vIte, ↓reduceIte, Int.reduceNe, Nat.reduceEqDiff, reduceCtorEq, Nat.reduceLeDiff, Nat.reduceAdd, Nat.reduceLT]); (repeat (simp only [brGen]; try simp only [↓ S2, S2, vIte, ↓reduceIte, Int.reduceNe, Nat.reduceEqDiff, reduceCtorEq, Nat.reduceLeDiff, Nat.reduceAdd, Nat.reduceLT])); (try simp +contextual (disch := omega) only [Z2]); (repeat' (first | (with_reducible intro h) | (with_reducible refine And.intro (by omega) ?_) | (with_reducible refine exP (by omega) ?_) | (with_reducible apply And.intro))))
  repeat' (first | (with_reducible refine callS.eq (w37 g hs) ?_) | (with_reducible refine callS.eq (w15 t hb.1 hb.2) ?_) | (with_reducible refine callS.eq (w51 x) ?_) | (with_reducible refine callS.eq (w50 g t x hs) ?_) | (with_reducible refine callS.eq (w52 g t x hs) ?_) | (with_reducible refine callS.eq (w53 _ _) ?_) | (with_reducible refine callS.eq (w41 g g) ?_) | (with_reducible refine callS.eq (w17 t t) ?_) | simp only [↓ S2, S2, vIte, ↓reduceIte, Int.reduceNe, Nat.reduceEqDiff, reduceCtorEq, Nat.reduceLeDiff, Nat.reduceAdd, Nat.reduceLT] | simp only [brGen] | simp +contextual (disch := omega) only [Z2] | (with_reducible intro h) | (with_reducible apply And.intro))
  all_goals first | rfl | (exfalso; simp_all; done) | simp_all
end Go.Proofs.Ytajhihnbnonadaa

namespace Go.Proofs.Ytajhihnbnonadaa
open Go.ChangeShapes Go.WideShapes Go.ChangeAt Go.RowKit Go.Gh
theorem Try.own : ownKnob Try.prog.godebug = none := by kernel_rfl
theorem Try.laidOut : laidOutB Try.prog = true := by kernel_rfl
/-- Types whose ghosts are told by a property: slices of expressions. -/
def Try.R : TypeId → Option (GV → Prop) := fun t => if t = 36 then some ExQ else none
set_option maxRecDepth 100000 in
theorem Try.knot {H : Type} {enc : TypeId × Value → H} {W : World} {spare : Nat → Bool} {held : Bool} : ∀ f t Q cs x, Try.R t = some Q → DataW.trod enc Try.prog W 0 spare held f t cs = some x → Lf W [.pr Q] cs :=
  Go.Gh.knot (tE := 38) (ts := ExT) (ag := true) 8 (by kernel_rfl) (by kernel_rfl) (by kernel_rfl) (by decide) (fun g h => exQ h)
set_option maxRecDepth 100000 in
theorem l10 (os : Os) (started : os.Started) (H : Type) (enc : TypeId × Value → H) :
    ReturnsInHanded {} Try.checked os 10 .any (Rows.fnExactAttributeOfSpec.pre6 enc Try.prog Try.f10 Rows.fnExactAttributeOfRow.domain false) (Rows.fnExactAttributeOfSpec.post enc Try.prog Try.f10 false true false false) := by
  refine returnsInHanded_of_change (C := Try.checked) Try.own started (by kernel_rfl) Try.func10
    (ChangeSpec.witness6 (enc := enc) (C := Try.checked) false ⟨#[], #[.agg #[.slice none 0 0, .slice none 0 0], .agg #[.slice none 0 0], .agg #[.int .i64 0, .string (ByteArray.mk #[])]], []⟩ 8 (by kernel_rfl) (by kernel_rfl) (by kernel_rfl) (by kernel_rfl)) ?_
  intro W base args ds gs before hval0 hW hcnd _
  have hval : ∀ (j : Nat) t v, Try.f10.params[j]? = some t → args[j]? = some v → Value.okWide Try.prog W .any base t v := hval0
  have hW' := hW
  obtain ⟨p, q, hA0, hV, rfl, hfz, hnd⟩ := hW
  have hA : DataW.TrodAll enc Try.prog W 0 (fun _ => true) true Try.f10.params.toList args.toList ds p := hA0
  rw [Try.params10] at hA hval
  obtain ⟨v0, v1, v2, d0, d1, d2, p0, p1, p2, rfl, rfl, rfl, h0, h1, h2⟩ := trodAll_three hA
  obtain ⟨rfl, rfl⟩ := trodVars_none hV
  obtain ⟨g0, m0, e0⟩ := lift_valR (P := Try.prog) (R := Try.R) 8 Try.knot (by kernel_rfl) (ts := GrT) (ag := true) (by kernel_rfl) (hval 0 _ v0 rfl rfl) h0
  obtain ⟨g1, m1, e1⟩ := lift_val (P := Try.prog) 8 (by kernel_rfl) (hval 1 _ v1 rfl rfl) h1
  obtain ⟨g2, m2, e2⟩ := lift_val (P := Try.prog) 8 (by kernel_rfl) (hval 2 _ v2 rfl rfl) h2
  obtain ⟨g, rfl, hg⟩ := t_Gr e0
  obtain ⟨t, rfl, ht⟩ := t_Tr e1
  obtain ⟨x, rfl, hx⟩ := t_Occ e2
  clear hA0 hval0
  simp only [List.append_nil] at hW'
  have hlt := hW'.lt
  refine ((w10 g t x hg ht hx).out i10 (W := W) (args := [v0, v1, v2]) (.cons0 m0 (.cons0 m1 (.cons0 m2 .nil0)))).mono fun e W' ⟨v, g, D, he, hg, hm, hb⟩ => ?_
  subst he; subst hg
  have hv := MV.val_inv hm
  subst hv
  exact ⟨_, rfl, post_of_below (pa := p0 ++ (p1 ++ p2)) (pv := []) hW' (fun _ _ _ => trodAll_mk1 (shut_bool Try.underlying4 _)) (fun sp hsp => trodAll_mk3 (WideElems.Trod_stays Try.laidOut (by kernel_rfl) (of_decide_eq_true (by kernel_rfl)) h0 (fun x hx => hb.same (hlt x (by simp [hx]))) (fun x hx => hsp x (by simp [hx]))) (WideElems.Trod_stays Try.laidOut (by kernel_rfl) (of_decide_eq_true (by kernel_rfl)) h1 (fun x hx => hb.same (hlt x (by simp [hx]))) (fun x hx => hsp x (by simp [hx]))) (WideElems.Trod_stays Try.laidOut (by kernel_rfl) (of_decide_eq_true (by kernel_rfl)) h2 (fun x hx => hb.same (hlt x (by simp [hx]))) (fun x hx => hsp x (by simp [hx])))) (fun _ _ => rfl) (by simp)
    hb (ok_one (by kernel_rfl) rfl (okWide_bool_mk Try.underlying4 _))⟩
theorem h10 : Rows.FnExactAttributeOfSaid :=
  OpenClaim.holds_of_wide 10 Try.f10 rfl rfl rfl rfl rfl rfl rfl ⟨rfl, rfl, rfl, rfl, rfl⟩ rfl rfl rfl rfl rfl (by kernel_rfl) Try.func10 (by kernel_rfl)
    (of_decide_eq_true (by kernel_rfl)) (by unfold Func.isWrapper; first | (rw [if_pos (by decide +kernel)]; kernel_rfl) | (rw [if_neg (by decide +kernel)]; exact ⟨rfl, rfl⟩))
    (fun os started H enc _ => l10 os started H enc)
end Go.Proofs.Ytajhihnbnonadaa

