/- The law FnStaticTypes returns true whatever the input, and the input reads behind the call as before. No condition. -/
import Derived.Test.YtkmedfejmndmjaaGreatFst2
set_option maxHeartbeats 40000000
set_option maxRecDepth 20000
set_option linter.unusedSimpArgs false
set_option linter.unusedVariables false
namespace Go.Proofs.YtkmedfejmndmjaaGreat
open Go.Gh
open Nat (reduceEqDiff reduceLeDiff reduceAdd reduceLT)
open Int (reduceNe)
theorem w13 (g : Gram) (r : Rul) (hg : ZE g) (hr : Y7 r) : ∀ e : Exp, wEx e ≤ 1048576 → Pu 13 [Gr g, Ru r, Ex e] (· = I (tyE g r e)) := by
  refine Exp.indA fun e ih hw => ?_
  obtain ⟨hl, ha⟩ := YT hw
  have hrr := hr.1
  refine Pure.bor ?_
  refine Z5 mxd i13 rfl (by simp) ?_; refine X0 ?_
  (refine R1 @XE ?_; with_reducible repeat' first|exact trivial|intro h|refine aO ?_|refine eO ?_|apply jO)
  rename_i q
  refine Y1 mxd (ι := { x : Nat × Nat // x.2 ≤ e.args.length }) (fun x => [(3, .rop 2 (Gr g)), (4, .rop 6 (Ru r)), (5, .rop 7 (Ex e)), (6, I 0), (7, .own x.1.1 1 0 x.1.2), (21, ExS e.args), (22, I e.args.length), (23, I x.1.2)]) (fun x => [(x.1.1, 1, ((e.args.take x.1.2).map (tyE g r)).map I)]) (fun x => e.args.length - x.1.2) ⟨(q, 0), by simp⟩ (by simp [E2]) (by simp [subH, ZV, names]) ?_
  rintro ⟨⟨q, i⟩, hi⟩ -
  dsimp only at hi ⊢
  rcases nL i e.args.length with hlt | hge
  · (repeat' (first | (with_reducible refine callS.eq (ih _ (gM hlt) (ha _ (gM hlt))) ?_) | simp (maxSteps := 9^7) only [↓ S2, S2, ZF, ↓reduceIte, reduceNe, reduceEqDiff, reduceCtorEq, reduceLeDiff, reduceAdd, reduceLT, XE] | simp only [ZQ] | simp +contextual (disch := omega) only [Z2] | with_reducible first | intro h | refine jO oT ?_ | refine exP oT ?_ | apply jO))
    all_goals try exact oF
    rename_i q2
    have h2 := Z4 h
    (replace h2 := h2; simp only [VN] at h2)
    (refine R1 (jO @Z9 (jO @Z8 (jO @Z7 (jO h2 @t_ldf)))) ?_; with_reducible repeat' first|exact trivial|intro h|refine aO ?_|refine eO ?_|apply jO)
    all_goals first | (exact (by simp; omega)) | skip
    rename_i q3
    have h3 := Z4 h
    (replace h3 := h3; simp only [VN] at h3)
    rw [Yg I (tyE g r) e.args i hlt]
    exact px ⟨(q3, i + 1), oT⟩ (by simp; omega) (by simp [E2]) (by simp [subH, ZV, names, h3])
  · have : i = e.args.length := by omega
    subst this
    rw [List.take_length, tyE_eq]
    have hts : ∃ ts, e.args.map (tyE g r) = ts := ⟨_, rfl⟩
    obtain ⟨ts, hts⟩ := hts
    have hlts : e.args.length = ts.length := by rw [← hts]; simp
    rw [hts]
    clear hts ih ha
    have hk : e.kind = 1 ∨ e.kind = 2 ∨ e.kind = 3 ∨ e.kind = 4 ∨ e.kind = 5 ∨ e.kind = 6 ∨ e.kind = 7 ∨ e.kind = 8 ∨ (¬ e.kind = 1 ∧ ¬ e.kind = 2 ∧ ¬ e.kind = 3 ∧ ¬ e.kind = 4 ∧ ¬ e.kind = 5 ∧ ¬ e.kind = 6 ∧ ¬ e.kind = 7 ∧ ¬ e.kind = 8) := by omega
    have hl2 : ((ts.length : Int) = 2) = (ts.length = 2) := propext oT
    have hl3 : ((ts.length : Int) = 3) = (ts.length = 3) := propext oT
    have hl1 : ((ts.length : Int) = 1) = (ts.length = 1) := propext oT
    rcases hk with hk | hk | hk | hk | hk | hk | hk | hk | hk
    · (repeat' (first | (with_reducible refine callS.eq (w47 _ _ _) ?_) | simp (maxSteps := 9^7) only [↓ S2, S2, ZF, ↓reduceIte, reduceNe, reduceEqDiff, reduceCtorEq, reduceLeDiff, reduceAdd, reduceLT, XE, hk, t_ldI, hlts] | simp only [ZQ] | simp +contextual (disch := omega) only [Z2] | with_reducible first | intro h | refine jO oT ?_ | refine exP oT ?_ | apply jO))
      all_goals try exact oF
      all_goals first
        | (refine .of_eq ?_; simp only [tyK, hk, Zk, Int.reduceEq, reduceIte]; done)
        | (refine .of_eq ?_
           simp only [tyK, hk, Zk, Int.reduceEq, reduceIte]
           first
             | (rw [if_pos (by assumption)]; done)
             | (rw [if_neg (by assumption)]; rfl)
             | (rw [if_pos ⟨hn, by rw [Z6 oT]; assumption, by rw [Z6 oT]; assumption⟩]; done)
             | (rw [if_neg (fun ⟨h1, h2, h3⟩ => by rw [Z6 oT] at h2 h3; contradiction)]; done)
             | (rw [if_neg (fun ⟨h1, h2, h3⟩ => by rw [Z6 oT] at h2; contradiction)]; done)
             | (rw [if_neg (fun ⟨h1, h2, h3⟩ => by rw [Z6 oT, Z6 oT] at h3; contradiction)]; done)
             | (rw [if_pos ⟨hn, by rw [Z6 oT]; assumption, by rw [Z6 oT, Z6 oT]; assumption⟩, Z6 oT]; first | rfl | (congr 2; assumption) | (congr 2; symm; assumption))
             | (rw [if_pos ⟨hn, by rw [Z6 oT]; assumption⟩]; done)
             | (rw [if_neg (fun ⟨h1, h2⟩ => by rw [Z6 oT] at h2; contradiction)]; done)
             | (rw [if_neg (fun ⟨h1, h2⟩ => by omega)]; done)
             | (rw [if_neg (by simp_all)]; done)
             | (simp_all; done))
    · cases hlit : r.lit
      all_goals (repeat' (first | (with_reducible refine callS.eq (w47 _ _ _) ?_) | simp (maxSteps := 9^7) only [↓ S2, S2, ZF, ↓reduceIte, reduceNe, reduceEqDiff, reduceCtorEq, reduceLeDiff, reduceAdd, reduceLT, XE, hk, t_ldI, hlts, hlit] | simp only [ZQ] | simp +contextual (disch := omega) only [Z2] | with_reducible first | intro h | refine jO oT ?_ | refine exP oT ?_ | apply jO))
      all_goals try exact oF
      all_goals first
        | (refine .of_eq ?_; simp only [tyK, hk, Zk, Int.reduceEq, reduceIte]; done)
        | (refine .of_eq ?_
           simp only [tyK, hk, Zk, Int.reduceEq, reduceIte]
           first
             | (rw [if_pos (by assumption)]; done)
             | (rw [if_neg (by assumption)]; rfl)
             | (rw [if_pos ⟨hn, by rw [Z6 oT]; assumption, by rw [Z6 oT]; assumption⟩]; done)
             | (rw [if_neg (fun ⟨h1, h2, h3⟩ => by rw [Z6 oT] at h2 h3; contradiction)]; done)
             | (rw [if_neg (fun ⟨h1, h2, h3⟩ => by rw [Z6 oT] at h2; contradiction)]; done)
             | (rw [if_neg (fun ⟨h1, h2, h3⟩ => by rw [Z6 oT, Z6 oT] at h3; contradiction)]; done)
             | (rw [if_pos ⟨hn, by rw [Z6 oT]; assumption, by rw [Z6 oT, Z6 oT]; assumption⟩, Z6 oT]; first | rfl | (congr 2; assumption) | (congr 2; symm; assumption))
             | (rw [if_pos ⟨hn, by rw [Z6 oT]; assumption⟩]; done)
             | (rw [if_neg (fun ⟨h1, h2⟩ => by rw [Z6 oT] at h2; contradiction)]; done)
             | (rw [if_neg (fun ⟨h1, h2⟩ => by omega)]; done)
             | (rw [if_neg (by simp_all)]; done)
             | (simp_all; done))
    · (repeat' (first | (with_reducible refine callS.eq (w45 g r (e.pos, e.name) hg hr) ?_) | simp (maxSteps := 9^7) only [↓ S2, S2, ZF, ↓reduceIte, reduceNe, reduceEqDiff, reduceCtorEq, reduceLeDiff, reduceAdd, reduceLT, XE, hk, t_ldI, hlts] | simp only [ZQ] | simp +contextual (disch := omega) only [Z2] | with_reducible first | intro h | refine jO oT ?_ | refine exP oT ?_ | apply jO))
      all_goals try exact oF
      all_goals first
        | (refine .of_eq ?_; simp only [tyK, hk, Zk, Int.reduceEq, reduceIte]; done)
        | (refine .of_eq ?_
           simp only [tyK, hk, Zk, Int.reduceEq, reduceIte]
           first
             | (rw [if_pos (by assumption)]; done)
             | (rw [if_neg (by assumption)]; rfl)
             | (rw [if_pos ⟨hn, by rw [Z6 oT]; assumption, by rw [Z6 oT]; assumption⟩]; done)
             | (rw [if_neg (fun ⟨h1, h2, h3⟩ => by rw [Z6 oT] at h2 h3; contradiction)]; done)
             | (rw [if_neg (fun ⟨h1, h2, h3⟩ => by rw [Z6 oT] at h2; contradiction)]; done)
             | (rw [if_neg (fun ⟨h1, h2, h3⟩ => by rw [Z6 oT, Z6 oT] at h3; contradiction)]; done)
             | (rw [if_pos ⟨hn, by rw [Z6 oT]; assumption, by rw [Z6 oT, Z6 oT]; assumption⟩, Z6 oT]; first | rfl | (congr 2; assumption) | (congr 2; symm; assumption))
             | (rw [if_pos ⟨hn, by rw [Z6 oT]; assumption⟩]; done)
             | (rw [if_neg (fun ⟨h1, h2⟩ => by rw [Z6 oT] at h2; contradiction)]; done)
             | (rw [if_neg (fun ⟨h1, h2⟩ => by omega)]; done)
             | (rw [if_neg (by simp_all)]; done)
             | (simp_all; done))
    · by_cases hn : ts.length = 2
      · (repeat' (first | (with_reducible refine callS.eq (w46 _) ?_) | simp (maxSteps := 9^7) only [↓ S2, S2, ZF, ↓reduceIte, reduceNe, reduceEqDiff, reduceCtorEq, reduceLeDiff, reduceAdd, reduceLT, XE, hk, t_ldI, hlts, hl2, hl3, hl1, eq_true hn] | simp only [ZQ] | simp +contextual (disch := omega) only [Z2] | with_reducible first | intro h | refine jO oT ?_ | refine exP oT ?_ | apply jO))
        all_goals try exact oF
        all_goals first
          | (refine .of_eq ?_; simp only [tyK, hk, Zk, Int.reduceEq, reduceIte]; done)
          | (refine .of_eq ?_
             simp only [tyK, hk, Zk, Int.reduceEq, reduceIte]
             first
               | (rw [if_pos (by assumption)]; done)
               | (rw [if_neg (by assumption)]; rfl)
               | (rw [if_pos ⟨hn, by rw [Z6 oT]; assumption, by rw [Z6 oT]; assumption⟩]; done)
               | (rw [if_neg (fun ⟨h1, h2, h3⟩ => by rw [Z6 oT] at h2 h3; contradiction)]; done)
               | (rw [if_neg (fun ⟨h1, h2, h3⟩ => by rw [Z6 oT] at h2; contradiction)]; done)
               | (rw [if_neg (fun ⟨h1, h2, h3⟩ => by rw [Z6 oT, Z6 oT] at h3; contradiction)]; done)
               | (rw [if_pos ⟨hn, by rw [Z6 oT]; assumption, by rw [Z6 oT, Z6 oT]; assumption⟩, Z6 oT]; first | rfl | (congr 2; assumption) | (congr 2; symm; assumption))
               | (rw [if_pos ⟨hn, by rw [Z6 oT]; assumption⟩]; done)
               | (rw [if_neg (fun ⟨h1, h2⟩ => by rw [Z6 oT] at h2; contradiction)]; done)
               | (rw [if_neg (fun ⟨h1, h2⟩ => by omega)]; done)
               | (rw [if_neg (by simp_all)]; done)
               | (simp_all; done))
      · (repeat' (first | (with_reducible refine callS.eq (w46 _) ?_) | simp (maxSteps := 9^7) only [↓ S2, S2, ZF, ↓reduceIte, reduceNe, reduceEqDiff, reduceCtorEq, reduceLeDiff, reduceAdd, reduceLT, XE, hk, t_ldI, hlts, hl2, hl3, hl1, eq_false hn] | simp only [ZQ] | simp +contextual (disch := omega) only [Z2] | with_reducible first | intro h | refine jO oT ?_ | refine exP oT ?_ | apply jO))
        all_goals try exact oF
        all_goals first
          | (refine .of_eq ?_; simp only [tyK, hk, Zk, Int.reduceEq, reduceIte]; done)
          | (refine .of_eq ?_
             simp only [tyK, hk, Zk, Int.reduceEq, reduceIte]
             first
               | (rw [if_pos (by assumption)]; done)
               | (rw [if_neg (by assumption)]; rfl)
               | (rw [if_pos ⟨hn, by rw [Z6 oT]; assumption, by rw [Z6 oT]; assumption⟩]; done)
               | (rw [if_neg (fun ⟨h1, h2, h3⟩ => by rw [Z6 oT] at h2 h3; contradiction)]; done)
               | (rw [if_neg (fun ⟨h1, h2, h3⟩ => by rw [Z6 oT] at h2; contradiction)]; done)
               | (rw [if_neg (fun ⟨h1, h2, h3⟩ => by rw [Z6 oT, Z6 oT] at h3; contradiction)]; done)
               | (rw [if_pos ⟨hn, by rw [Z6 oT]; assumption, by rw [Z6 oT, Z6 oT]; assumption⟩, Z6 oT]; first | rfl | (congr 2; assumption) | (congr 2; symm; assumption))
               | (rw [if_pos ⟨hn, by rw [Z6 oT]; assumption⟩]; done)
               | (rw [if_neg (fun ⟨h1, h2⟩ => by rw [Z6 oT] at h2; contradiction)]; done)
               | (rw [if_neg (fun ⟨h1, h2⟩ => by omega)]; done)
               | (rw [if_neg (by simp_all)]; done)
               | (simp_all; done))
    · by_cases hn : ts.length = 3
      · (repeat' (first | (with_reducible refine callS.eq (w46 _) ?_) | simp (maxSteps := 9^7) only [↓ S2, S2, ZF, ↓reduceIte, reduceNe, reduceEqDiff, reduceCtorEq, reduceLeDiff, reduceAdd, reduceLT, XE, hk, t_ldI, hlts, hl2, hl3, hl1, eq_true hn] | simp only [ZQ] | simp +contextual (disch := omega) only [Z2] | with_reducible first | intro h | refine jO oT ?_ | refine exP oT ?_ | apply jO))
        all_goals try exact oF
        all_goals first
          | (refine .of_eq ?_; simp only [tyK, hk, Zk, Int.reduceEq, reduceIte]; done)
          | (refine .of_eq ?_
             simp only [tyK, hk, Zk, Int.reduceEq, reduceIte]
             first
               | (rw [if_pos (by assumption)]; done)
               | (rw [if_neg (by assumption)]; rfl)
               | (rw [if_pos ⟨hn, by rw [Z6 oT]; assumption, by rw [Z6 oT]; assumption⟩]; done)
               | (rw [if_neg (fun ⟨h1, h2, h3⟩ => by rw [Z6 oT] at h2 h3; contradiction)]; done)
               | (rw [if_neg (fun ⟨h1, h2, h3⟩ => by rw [Z6 oT] at h2; contradiction)]; done)
               | (rw [if_neg (fun ⟨h1, h2, h3⟩ => by rw [Z6 oT, Z6 oT] at h3; contradiction)]; done)
               | (rw [if_pos ⟨hn, by rw [Z6 oT]; assumption, by rw [Z6 oT, Z6 oT]; assumption⟩, Z6 oT]; first | rfl | (congr 2; assumption) | (congr 2; symm; assumption))
               | (rw [if_pos ⟨hn, by rw [Z6 oT]; assumption⟩]; done)
               | (rw [if_neg (fun ⟨h1, h2⟩ => by rw [Z6 oT] at h2; contradiction)]; done)
               | (rw [if_neg (fun ⟨h1, h2⟩ => by omega)]; done)
               | (rw [if_neg (by simp_all)]; done)
               | (simp_all; done))
      · (repeat' (first | (with_reducible refine callS.eq (w46 _) ?_) | simp (maxSteps := 9^7) only [↓ S2, S2, ZF, ↓reduceIte, reduceNe, reduceEqDiff, reduceCtorEq, reduceLeDiff, reduceAdd, reduceLT, XE, hk, t_ldI, hlts, hl2, hl3, hl1, eq_false hn] | simp only [ZQ] | simp +contextual (disch := omega) only [Z2] | with_reducible first | intro h | refine jO oT ?_ | refine exP oT ?_ | apply jO))
        all_goals try exact oF
        all_goals first
          | (refine .of_eq ?_; simp only [tyK, hk, Zk, Int.reduceEq, reduceIte]; done)
          | (refine .of_eq ?_
             simp only [tyK, hk, Zk, Int.reduceEq, reduceIte]
             first
               | (rw [if_pos (by assumption)]; done)
               | (rw [if_neg (by assumption)]; rfl)
               | (rw [if_pos ⟨hn, by rw [Z6 oT]; assumption, by rw [Z6 oT]; assumption⟩]; done)
               | (rw [if_neg (fun ⟨h1, h2, h3⟩ => by rw [Z6 oT] at h2 h3; contradiction)]; done)
               | (rw [if_neg (fun ⟨h1, h2, h3⟩ => by rw [Z6 oT] at h2; contradiction)]; done)
               | (rw [if_neg (fun ⟨h1, h2, h3⟩ => by rw [Z6 oT, Z6 oT] at h3; contradiction)]; done)
               | (rw [if_pos ⟨hn, by rw [Z6 oT]; assumption, by rw [Z6 oT, Z6 oT]; assumption⟩, Z6 oT]; first | rfl | (congr 2; assumption) | (congr 2; symm; assumption))
               | (rw [if_pos ⟨hn, by rw [Z6 oT]; assumption⟩]; done)
               | (rw [if_neg (fun ⟨h1, h2⟩ => by rw [Z6 oT] at h2; contradiction)]; done)
               | (rw [if_neg (fun ⟨h1, h2⟩ => by omega)]; done)
               | (rw [if_neg (by simp_all)]; done)
               | (simp_all; done))
    · (repeat' (first | (with_reducible refine callS.eq (w47 _ _ _) ?_) | simp (maxSteps := 9^7) only [↓ S2, S2, ZF, ↓reduceIte, reduceNe, reduceEqDiff, reduceCtorEq, reduceLeDiff, reduceAdd, reduceLT, XE, hk, t_ldI, hlts] | simp only [ZQ] | simp +contextual (disch := omega) only [Z2] | with_reducible first | intro h | refine jO oT ?_ | refine exP oT ?_ | apply jO))
      all_goals try exact oF
      all_goals first
        | (refine .of_eq ?_; simp only [tyK, hk, Zk, Int.reduceEq, reduceIte]; done)
        | (refine .of_eq ?_
           simp only [tyK, hk, Zk, Int.reduceEq, reduceIte]
           first
             | (rw [if_pos (by assumption)]; done)
             | (rw [if_neg (by assumption)]; rfl)
             | (rw [if_pos ⟨hn, by rw [Z6 oT]; assumption, by rw [Z6 oT]; assumption⟩]; done)
             | (rw [if_neg (fun ⟨h1, h2, h3⟩ => by rw [Z6 oT] at h2 h3; contradiction)]; done)
             | (rw [if_neg (fun ⟨h1, h2, h3⟩ => by rw [Z6 oT] at h2; contradiction)]; done)
             | (rw [if_neg (fun ⟨h1, h2, h3⟩ => by rw [Z6 oT, Z6 oT] at h3; contradiction)]; done)
             | (rw [if_pos ⟨hn, by rw [Z6 oT]; assumption, by rw [Z6 oT, Z6 oT]; assumption⟩, Z6 oT]; first | rfl | (congr 2; assumption) | (congr 2; symm; assumption))
             | (rw [if_pos ⟨hn, by rw [Z6 oT]; assumption⟩]; done)
             | (rw [if_neg (fun ⟨h1, h2⟩ => by rw [Z6 oT] at h2; contradiction)]; done)
             | (rw [if_neg (fun ⟨h1, h2⟩ => by omega)]; done)
             | (rw [if_neg (by simp_all)]; done)
             | (simp_all; done))
    · (repeat' (first | (with_reducible refine callS.eq (w47 _ _ _) ?_) | simp (maxSteps := 9^7) only [↓ S2, S2, ZF, ↓reduceIte, reduceNe, reduceEqDiff, reduceCtorEq, reduceLeDiff, reduceAdd, reduceLT, XE, hk, t_ldI, hlts] | simp only [ZQ] | simp +contextual (disch := omega) only [Z2] | with_reducible first | intro h | refine jO oT ?_ | refine exP oT ?_ | apply jO))
      all_goals try exact oF
      all_goals first
        | (refine .of_eq ?_; simp only [tyK, hk, Zk, Int.reduceEq, reduceIte]; done)
        | (refine .of_eq ?_
           simp only [tyK, hk, Zk, Int.reduceEq, reduceIte]
           first
             | (rw [if_pos (by assumption)]; done)
             | (rw [if_neg (by assumption)]; rfl)
             | (rw [if_pos ⟨hn, by rw [Z6 oT]; assumption, by rw [Z6 oT]; assumption⟩]; done)
             | (rw [if_neg (fun ⟨h1, h2, h3⟩ => by rw [Z6 oT] at h2 h3; contradiction)]; done)
             | (rw [if_neg (fun ⟨h1, h2, h3⟩ => by rw [Z6 oT] at h2; contradiction)]; done)
             | (rw [if_neg (fun ⟨h1, h2, h3⟩ => by rw [Z6 oT, Z6 oT] at h3; contradiction)]; done)
             | (rw [if_pos ⟨hn, by rw [Z6 oT]; assumption, by rw [Z6 oT, Z6 oT]; assumption⟩, Z6 oT]; first | rfl | (congr 2; assumption) | (congr 2; symm; assumption))
             | (rw [if_pos ⟨hn, by rw [Z6 oT]; assumption⟩]; done)
             | (rw [if_neg (fun ⟨h1, h2⟩ => by rw [Z6 oT] at h2; contradiction)]; done)
             | (rw [if_neg (fun ⟨h1, h2⟩ => by omega)]; done)
             | (rw [if_neg (by simp_all)]; done)
             | (simp_all; done))
    · by_cases hn : ts.length = 1
      · (repeat' (first | (with_reducible refine callS.eq (w48 _ _ hg) ?_) | (with_reducible refine callS.eq (w49 _ _ (YR hg _)) ?_) | simp (maxSteps := 9^7) only [↓ S2, S2, ZF, ↓reduceIte, reduceNe, reduceEqDiff, reduceCtorEq, reduceLeDiff, reduceAdd, reduceLT, XE, hk, t_ldI, hlts, hl2, hl3, hl1, eq_true hn] | simp only [ZQ] | simp +contextual (disch := omega) only [Z2] | with_reducible first | intro h | refine jO oT ?_ | refine exP oT ?_ | apply jO))
        all_goals try exact oF
        all_goals first
          | (refine .of_eq ?_; simp only [tyK, hk, Zk, Int.reduceEq, reduceIte]; done)
          | (refine .of_eq ?_
             simp only [tyK, hk, Zk, Int.reduceEq, reduceIte]
             first
               | (rw [if_pos (by assumption)]; done)
               | (rw [if_neg (by assumption)]; rfl)
               | (rw [if_pos ⟨hn, by rw [Z6 oT]; assumption, by rw [Z6 oT]; assumption⟩]; done)
               | (rw [if_neg (fun ⟨h1, h2, h3⟩ => by rw [Z6 oT] at h2 h3; contradiction)]; done)
               | (rw [if_neg (fun ⟨h1, h2, h3⟩ => by rw [Z6 oT] at h2; contradiction)]; done)
               | (rw [if_neg (fun ⟨h1, h2, h3⟩ => by rw [Z6 oT, Z6 oT] at h3; contradiction)]; done)
               | (rw [if_pos ⟨hn, by rw [Z6 oT]; assumption, by rw [Z6 oT, Z6 oT]; assumption⟩, Z6 oT]; first | rfl | (congr 2; assumption) | (congr 2; symm; assumption))
               | (rw [if_pos ⟨hn, by rw [Z6 oT]; assumption⟩]; done)
               | (rw [if_neg (fun ⟨h1, h2⟩ => by rw [Z6 oT] at h2; contradiction)]; done)
               | (rw [if_neg (fun ⟨h1, h2⟩ => by omega)]; done)
               | (rw [if_neg (by simp_all)]; done)
               | (simp_all; done))
      · (repeat' (first | (with_reducible refine callS.eq (w48 _ _ hg) ?_) | (with_reducible refine callS.eq (w49 _ _ (YR hg _)) ?_) | simp (maxSteps := 9^7) only [↓ S2, S2, ZF, ↓reduceIte, reduceNe, reduceEqDiff, reduceCtorEq, reduceLeDiff, reduceAdd, reduceLT, XE, hk, t_ldI, hlts, hl2, hl3, hl1, eq_false hn] | simp only [ZQ] | simp +contextual (disch := omega) only [Z2] | with_reducible first | intro h | refine jO oT ?_ | refine exP oT ?_ | apply jO))
        all_goals try exact oF
        all_goals first
          | (refine .of_eq ?_; simp only [tyK, hk, Zk, Int.reduceEq, reduceIte]; done)
          | (refine .of_eq ?_
             simp only [tyK, hk, Zk, Int.reduceEq, reduceIte]
             first
               | (rw [if_pos (by assumption)]; done)
               | (rw [if_neg (by assumption)]; rfl)
               | (rw [if_pos ⟨hn, by rw [Z6 oT]; assumption, by rw [Z6 oT]; assumption⟩]; done)
               | (rw [if_neg (fun ⟨h1, h2, h3⟩ => by rw [Z6 oT] at h2 h3; contradiction)]; done)
               | (rw [if_neg (fun ⟨h1, h2, h3⟩ => by rw [Z6 oT] at h2; contradiction)]; done)
               | (rw [if_neg (fun ⟨h1, h2, h3⟩ => by rw [Z6 oT, Z6 oT] at h3; contradiction)]; done)
               | (rw [if_pos ⟨hn, by rw [Z6 oT]; assumption, by rw [Z6 oT, Z6 oT]; assumption⟩, Z6 oT]; first | rfl | (congr 2; assumption) | (congr 2; symm; assumption))
               | (rw [if_pos ⟨hn, by rw [Z6 oT]; assumption⟩]; done)
               | (rw [if_neg (fun ⟨h1, h2⟩ => by rw [Z6 oT] at h2; contradiction)]; done)
               | (rw [if_neg (fun ⟨h1, h2⟩ => by omega)]; done)
               | (rw [if_neg (by simp_all)]; done)
               | (simp_all; done))
    · (repeat' (first | (with_reducible refine callS.eq (w47 _ _ _) ?_) | simp (maxSteps := 9^7) only [↓ S2, S2, ZF, ↓reduceIte, reduceNe, reduceEqDiff, reduceCtorEq, reduceLeDiff, reduceAdd, reduceLT, XE, hk, t_ldI, hlts] | simp only [ZQ] | simp +contextual (disch := omega) only [Z2] | with_reducible first | intro h | refine jO oT ?_ | refine exP oT ?_ | apply jO))
      all_goals try exact oF
      all_goals first
        | (refine .of_eq ?_; simp only [tyK, hk, Zk, Int.reduceEq, reduceIte]; done)
        | (refine .of_eq ?_
           simp only [tyK, hk, Zk, Int.reduceEq, reduceIte]
           first
             | (rw [if_pos (by assumption)]; done)
             | (rw [if_neg (by assumption)]; rfl)
             | (rw [if_pos ⟨hn, by rw [Z6 oT]; assumption, by rw [Z6 oT]; assumption⟩]; done)
             | (rw [if_neg (fun ⟨h1, h2, h3⟩ => by rw [Z6 oT] at h2 h3; contradiction)]; done)
             | (rw [if_neg (fun ⟨h1, h2, h3⟩ => by rw [Z6 oT] at h2; contradiction)]; done)
             | (rw [if_neg (fun ⟨h1, h2, h3⟩ => by rw [Z6 oT, Z6 oT] at h3; contradiction)]; done)
             | (rw [if_pos ⟨hn, by rw [Z6 oT]; assumption, by rw [Z6 oT, Z6 oT]; assumption⟩, Z6 oT]; first | rfl | (congr 2; assumption) | (congr 2; symm; assumption))
             | (rw [if_pos ⟨hn, by rw [Z6 oT]; assumption⟩]; done)
             | (rw [if_neg (fun ⟨h1, h2⟩ => by rw [Z6 oT] at h2; contradiction)]; done)
             | (rw [if_neg (fun ⟨h1, h2⟩ => by omega)]; done)
             | (rw [if_neg (by simp_all)]; done)
             | (simp_all; done))
end Go.Proofs.YtkmedfejmndmjaaGreat
