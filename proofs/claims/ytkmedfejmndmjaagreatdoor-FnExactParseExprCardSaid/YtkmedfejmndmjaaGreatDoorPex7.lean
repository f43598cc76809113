/- The tied card of the law FnExactParseExpr holds. No condition. -/
import Derived.Test.YtkmedfejmndmjaaGreatDoorPex5
import Derived.Test.YtkmedfejmndmjaaGreatDoorPex6
set_option linter.unusedSimpArgs false
set_option linter.unusedVariables false
namespace Go.Proofs.YtkmedfejmndmjaaGreatDoor
open Go.Gh
set_option maxRecDepth 20000
set_option linter.unusedSimpArgs false
set_option linter.unusedVariables false
open Go.Lib
set_option maxHeartbeats 8000000 in
theorem o13 (s : ByteArray) (hs : (chars s).length ≤ 1048576) (H : GH) (hT : ∀ x ∈ tabE 1 3, x ∈ H) : GCalls Tryz.prog 13 [T s] H (AnsO (parV (chars s)) H) := by
  refine AnsS.own ?_
  have hK := okR_tokz (chars s)
  have hl := hK.len
  have hV : ∀ e j, rE (tokz (chars s)).1 0 = .ok e j → okE e ∧ wEx e ≤ 1048576 := fun e j h => rE_sz hK.txt hl h
  have hp : ∀ k, (rE (tokz (chars s)).1 0).at = k → k ≤ (tokz (chars s)).1.length := fun k h => h ▸ (rE_bd 0 (Nat.zero_le _)).2
  have hbd := parV_bad (l := chars s)
  have hrd := parV_rd (l := chars s)
  refine gstart mxd i13 rfl (by simp) ?_; simp (maxSteps := 2000000) only [↓ S2, S2, vIte, ↓reduceIte, Int.reduceNe, Nat.reduceEqDiff, reduceCtorEq, Nat.reduceLeDiff, Nat.reduceAdd, Nat.reduceLT]
  ((try with_reducible refine mkQI ?_); (repeat ((first | (with_reducible refine mkQU ?_) | simp only [brGen]); try simp (maxSteps := 2000000) only [↓ S2, S2, vIte, ↓reduceIte, Int.reduceNe, Nat.reduceEqDiff, reduceCtorEq, Nat.reduceLeDiff, Nat.reduceAdd, Nat.reduceLT, ])); (try simp +contextual (disch := omega) only [Z2, ]); (repeat' (first | (with_reducible intro h) | (with_reducible refine And.intro (by omega) ?_) | (with_reducible refine exP (by omega) ?_) | (with_reducible apply And.intro))))
  refine callS.eqT (p33 s hs) (tabH_E (by decide)) hT ?_
  generalize hTT : tokz (chars s) = TT at *
  by_cases h0 : 0 ≤ TT.2
  · have h0' : (0 ≤ TT.2) = True := eq_true h0
    rw [hbd h0]
    ((try with_reducible refine mkQI ?_); (repeat ((first | (with_reducible refine mkQU ?_) | simp only [brGen]); try simp (maxSteps := 2000000) only [↓ S2, S2, vIte, ↓reduceIte, Int.reduceNe, Nat.reduceEqDiff, reduceCtorEq, Nat.reduceLeDiff, Nat.reduceAdd, Nat.reduceLT, h0', decide_true, decide_false])); (try simp +contextual (disch := omega) only [Z2, h0', decide_true, decide_false]); (repeat' (first | (with_reducible intro h) | (with_reducible refine And.intro (by omega) ?_) | (with_reducible refine exP (by omega) ?_) | (with_reducible apply And.intro))))
    all_goals exact .inr ⟨[], rfl, rfl, rfl⟩
  · have h0' : (0 ≤ TT.2) = False := eq_false h0
    have hrd := hrd h0
    rw [hrd]
    ((try with_reducible refine mkQI ?_); (repeat ((first | (with_reducible refine mkQU ?_) | simp only [brGen]); try simp (maxSteps := 2000000) only [↓ S2, S2, vIte, ↓reduceIte, Int.reduceNe, Nat.reduceEqDiff, reduceCtorEq, Nat.reduceLeDiff, Nat.reduceAdd, Nat.reduceLT, h0', decide_true, decide_false])); (try simp +contextual (disch := omega) only [Z2, h0', decide_true, decide_false]); (repeat' (first | (with_reducible intro h) | (with_reducible refine And.intro (by omega) ?_) | (with_reducible refine exP (by omega) ?_) | (with_reducible apply And.intro))))
    rename_i rp
    refine callS.of (o34 TT.1 hl hK.txt hK.num 0 (Nat.zero_le _) false rp _ hget_new) ?_
    rintro _ _ ⟨e, r, rfl, rfl, he⟩ hn
    rw [hset_new] at hn ⊢
    have hrp : r ≠ rp := ne_of_new hn hget_new
    rw [frm_f] at he hn ⊢
    cases hP : rE TT.1 0 with
    | bad k =>
      rw [hP] at hp hV he
      have hk := hp k rfl
      rw [show [PaG TT.1 (PR.bad k : PR Exp).at (PR.bad k : PR Exp).err] = [PaG TT.1 k true] from rfl]
      have hg : hget ((r, 7, e.args.map ExO) :: (rp, 3, [PaG TT.1 k true]) :: H) rp = some (3, [PaG TT.1 k true]) := by rw [hget_old hrp]; exact hget_new
      rcases Nat.lt_or_ge k TT.1.length with hlt | hge
      · have e1 : ((k : Int) = TT.1.length) = False := eq_false (by omega)
        have e2 : ((k : Int) < TT.1.length) = True := eq_true (by omega)
        have e3 : ¬ TT.1.length ≤ k := (by omega)
        ((try with_reducible refine mkQI ?_); (repeat ((first | (with_reducible refine mkQU ?_) | simp only [brGen]); try simp (maxSteps := 2000000) only [↓ S2, S2, vIte, ↓reduceIte, Int.reduceNe, Nat.reduceEqDiff, reduceCtorEq, Nat.reduceLeDiff, Nat.reduceAdd, Nat.reduceLT, hrp, hg, e1, e2, e3, hlt, decide_true, decide_false])); (try simp +contextual (disch := omega) only [Z2, hrp, hg, e1, e2, e3, hlt, decide_true, decide_false]); (repeat' (first | (with_reducible intro h) | (with_reducible refine And.intro (by omega) ?_) | (with_reducible refine exP (by omega) ?_) | (with_reducible apply And.intro))))
        all_goals exact .inr ⟨[(r, 7, e.args.map ExO), (rp, 3, [PaG TT.1 k true])], rfl, by rw [offT_lt hlt]; rfl, rfl⟩
      · have e1 : ((k : Int) = TT.1.length) = True := eq_true (by omega)
        ((try with_reducible refine mkQI ?_); (repeat ((first | (with_reducible refine mkQU ?_) | simp only [brGen]); try simp (maxSteps := 2000000) only [↓ S2, S2, vIte, ↓reduceIte, Int.reduceNe, Nat.reduceEqDiff, reduceCtorEq, Nat.reduceLeDiff, Nat.reduceAdd, Nat.reduceLT, hrp, hg, e1, decide_true, decide_false])); (try simp +contextual (disch := omega) only [Z2, hrp, hg, e1, decide_true, decide_false]); (repeat' (first | (with_reducible intro h) | (with_reducible refine And.intro (by omega) ?_) | (with_reducible refine exP (by omega) ?_) | (with_reducible apply And.intro))))
        all_goals exact .inr ⟨[(r, 7, e.args.map ExO), (rp, 3, [PaG TT.1 k true])], rfl, by rw [offT_ge hge]; rfl, rfl⟩
    | ok a k =>
      rw [hP] at hp hV he
      have hk := hp k rfl
      obtain rfl := he a k rfl
      dsimp only
      rw [show [PaG TT.1 (PR.ok e k).at (PR.ok e k).err] = [PaG TT.1 k false] from rfl]
      have hg : hget ((r, 7, e.args.map ExO) :: (rp, 3, [PaG TT.1 k false]) :: H) rp = some (3, [PaG TT.1 k false]) := by rw [hget_old hrp]; exact hget_new
      rcases Nat.lt_or_ge k TT.1.length with hlt | hge
      · have e1 : ((k : Int) = TT.1.length) = False := eq_false (by omega)
        have e2 : ((k : Int) < TT.1.length) = True := eq_true (by omega)
        have e3 : ¬ TT.1.length ≤ k := (by omega)
        rw [if_pos hlt]
        ((try with_reducible refine mkQI ?_); (repeat ((first | (with_reducible refine mkQU ?_) | simp only [brGen]); try simp (maxSteps := 2000000) only [↓ S2, S2, vIte, ↓reduceIte, Int.reduceNe, Nat.reduceEqDiff, reduceCtorEq, Nat.reduceLeDiff, Nat.reduceAdd, Nat.reduceLT, hrp, hg, e1, e2, e3, hlt, decide_true, decide_false])); (try simp +contextual (disch := omega) only [Z2, hrp, hg, e1, e2, e3, hlt, decide_true, decide_false]); (repeat' (first | (with_reducible intro h) | (with_reducible refine And.intro (by omega) ?_) | (with_reducible refine exP (by omega) ?_) | (with_reducible apply And.intro))))
        all_goals exact .inr ⟨[(r, 7, e.args.map ExO), (rp, 3, [PaG TT.1 k false])], rfl, by rw [offT_lt hlt]; rfl, rfl⟩
      · have e1 : ((k : Int) = TT.1.length) = True := eq_true (by omega)
        have e2 : ((k : Int) < TT.1.length) = False := eq_false (by omega)
        rw [if_neg (by omega)]
        ((try with_reducible refine mkQI ?_); (repeat ((first | (with_reducible refine mkQU ?_) | simp only [brGen]); try simp (maxSteps := 2000000) only [↓ S2, S2, vIte, ↓reduceIte, Int.reduceNe, Nat.reduceEqDiff, reduceCtorEq, Nat.reduceLeDiff, Nat.reduceAdd, Nat.reduceLT, hrp, hg, e1, e2, decide_true, decide_false])); (try simp +contextual (disch := omega) only [Z2, hrp, hg, e1, e2, decide_true, decide_false]); (repeat' (first | (with_reducible intro h) | (with_reducible refine And.intro (by omega) ?_) | (with_reducible refine exP (by omega) ?_) | (with_reducible apply And.intro))))
        obtain ⟨v1, v2⟩ := hV e k rfl
        have hb : Bor ((r, 7, e.args.map ExO) :: (rp, 3, [PaG TT.1 k false]) :: H) (EO r e) (Ex e) := bor_EO hget_new
        refine callS.borA (w27 e v1 v2) (.cons hb .nil) rfl ?_
        by_cases hv : validE e = true
        · rw [hv, if_pos rfl]
          ((try with_reducible refine mkQI ?_); (repeat ((first | (with_reducible refine mkQU ?_) | simp only [brGen]); try simp (maxSteps := 2000000) only [↓ S2, S2, vIte, ↓reduceIte, Int.reduceNe, Nat.reduceEqDiff, reduceCtorEq, Nat.reduceLeDiff, Nat.reduceAdd, Nat.reduceLT, hrp, hg])); (try simp +contextual (disch := omega) only [Z2, hrp, hg]); (repeat' (first | (with_reducible intro h) | (with_reducible refine And.intro (by omega) ?_) | (with_reducible refine exP (by omega) ?_) | (with_reducible apply And.intro))))
          all_goals exact .inl ⟨r, rp, _, rfl, rfl⟩
        · have hv' : validE e = false := Bool.eq_false_iff.2 hv
          rw [hv', if_neg (by decide)]
          ((try with_reducible refine mkQI ?_); (repeat ((first | (with_reducible refine mkQU ?_) | simp only [brGen]); try simp (maxSteps := 2000000) only [↓ S2, S2, vIte, ↓reduceIte, Int.reduceNe, Nat.reduceEqDiff, reduceCtorEq, Nat.reduceLeDiff, Nat.reduceAdd, Nat.reduceLT, hrp, hg])); (try simp +contextual (disch := omega) only [Z2, hrp, hg]); (repeat' (first | (with_reducible intro h) | (with_reducible refine And.intro (by omega) ?_) | (with_reducible refine exP (by omega) ?_) | (with_reducible apply And.intro))))
          all_goals exact .inr ⟨[(r, 7, e.args.map ExO), (rp, 3, [PaG TT.1 k false])], rfl, rfl, rfl⟩
end Go.Proofs.YtkmedfejmndmjaaGreatDoor

namespace Go.Proofs.YtkmedfejmndmjaaGreatDoor
open Go.Gh
set_option maxRecDepth 20000
set_option linter.unusedSimpArgs false
set_option linter.unusedVariables false
open Go.Lib
set_option maxHeartbeats 8000000 in
theorem o16 (s : ByteArray) (hs : (chars s).length ≤ 1048576) (H : GH) : GCalls Tryz.prog 16 [T s] H (AnsO (parV (chars s)) H) := by
  refine AnsS.own ?_
  have hK := okR_tokz (chars s)
  have hl := hK.len
  have hsz : s.size ≤ 1048576 := by rw [size_chars]; exact hs
  have hV : ∀ e j, rE (tokz (chars s)).1 0 = .ok e j → okE e ∧ wEx e ≤ 1048576 := fun e j h => rE_sz hK.txt hl h
  have hp : ∀ k, (rE (tokz (chars s)).1 0).at = k → k ≤ (tokz (chars s)).1.length := fun k h => h ▸ (rE_bd 0 (Nat.zero_le _)).2
  have hbd := parV_bad (l := chars s)
  have hrd := parV_rd (l := chars s)
  refine gstart mxd i16 rfl (by simp) ?_; simp (maxSteps := 2000000) only [↓ S2, S2, vIte, ↓reduceIte, Int.reduceNe, Nat.reduceEqDiff, reduceCtorEq, Nat.reduceLeDiff, Nat.reduceAdd, Nat.reduceLT]
  ((try with_reducible refine mkQI ?_); (repeat ((first | (with_reducible refine mkQU ?_) | simp only [brGen]); try simp (maxSteps := 2000000) only [↓ S2, S2, vIte, ↓reduceIte, Int.reduceNe, Nat.reduceEqDiff, reduceCtorEq, Nat.reduceLeDiff, Nat.reduceAdd, Nat.reduceLT, ])); (try simp +contextual (disch := omega) only [Z2, ]); (repeat' (first | (with_reducible intro h) | (with_reducible refine And.intro (by omega) ?_) | (with_reducible refine exP (by omega) ?_) | (with_reducible apply And.intro))))
  refine callS.eq (w14 s hs) ?_
  generalize hTT : tokz (chars s) = TT at *
  by_cases h0 : 0 ≤ TT.2
  · have h0' : (0 ≤ TT.2) = True := eq_true h0
    rw [hbd h0]
    ((try with_reducible refine mkQI ?_); (repeat ((first | (with_reducible refine mkQU ?_) | simp only [brGen]); try simp (maxSteps := 2000000) only [↓ S2, S2, vIte, ↓reduceIte, Int.reduceNe, Nat.reduceEqDiff, reduceCtorEq, Nat.reduceLeDiff, Nat.reduceAdd, Nat.reduceLT, h0', decide_true, decide_false])); (try simp +contextual (disch := omega) only [Z2, h0', decide_true, decide_false]); (repeat' (first | (with_reducible intro h) | (with_reducible refine And.intro (by omega) ?_) | (with_reducible refine exP (by omega) ?_) | (with_reducible apply And.intro))))
    all_goals exact .inr ⟨[], rfl, rfl, rfl⟩
  · have h0' : (0 ≤ TT.2) = False := eq_false h0
    have hrd := hrd h0
    rw [hrd]
    ((try with_reducible refine mkQI ?_); (repeat ((first | (with_reducible refine mkQU ?_) | simp only [brGen]); try simp (maxSteps := 2000000) only [↓ S2, S2, vIte, ↓reduceIte, Int.reduceNe, Nat.reduceEqDiff, reduceCtorEq, Nat.reduceLeDiff, Nat.reduceAdd, Nat.reduceLT, h0', decide_true, decide_false])); (try simp +contextual (disch := omega) only [Z2, h0', decide_true, decide_false]); (repeat' (first | (with_reducible intro h) | (with_reducible refine And.intro (by omega) ?_) | (with_reducible refine exP (by omega) ?_) | (with_reducible apply And.intro))))
    rename_i rp
    rw [show (rp, 4, [GV.agg [TkS TT.1, I 0, I ((chars s).length : Int), I (-1)]]) = (rp, 4, [SpG TT.1 ((chars s).length : Int) 0 false]) from rfl]
    refine callS.of (o38 hK 0 (Nat.zero_le _) false rp _ hget_new) ?_
    rintro _ _ ⟨e, r, rfl, rfl, he⟩ hn
    rw [hset_new] at hn ⊢
    have hrp : r ≠ rp := ne_of_new hn hget_new
    rw [frm_f] at he hn ⊢
    cases hP : rE TT.1 0 with
    | bad k =>
      rw [hP] at hp hV he
      have hk := hp k rfl
      rw [show [SpG TT.1 ((chars s).length : Int) (PR.bad k : PR Exp).at (PR.bad k : PR Exp).err] = [SpG TT.1 ((chars s).length : Int) k true] from rfl]
      have hg : hget ((r, 7, e.args.map ExO) :: (rp, 4, [SpG TT.1 ((chars s).length : Int) k true]) :: H) rp = some (4, [SpG TT.1 ((chars s).length : Int) k true]) := by rw [hget_old hrp]; exact hget_new
      have e1 := hK.ng k
      have e2 := hK.ge k
      ((try with_reducible refine mkQI ?_); (repeat ((first | (with_reducible refine mkQU ?_) | simp only [brGen]); try simp (maxSteps := 2000000) only [↓ S2, S2, vIte, ↓reduceIte, Int.reduceNe, Nat.reduceEqDiff, reduceCtorEq, Nat.reduceLeDiff, Nat.reduceAdd, Nat.reduceLT, hrp, hg, bdO_t, e1, e2, decide_true, decide_false])); (try simp +contextual (disch := omega) only [Z2, hrp, hg, bdO_t, e1, e2, decide_true, decide_false]); (repeat' (first | (with_reducible intro h) | (with_reducible refine And.intro (by omega) ?_) | (with_reducible refine exP (by omega) ?_) | (with_reducible apply And.intro))))
      all_goals exact .inr ⟨[(r, 7, e.args.map ExO), (rp, 4, [SpG TT.1 ((chars s).length : Int) k true])], rfl, rfl, rfl⟩
    | ok a k =>
      rw [hP] at hp hV he
      have hk := hp k rfl
      obtain rfl := he a k rfl
      dsimp only
      rw [show [SpG TT.1 ((chars s).length : Int) (PR.ok e k).at (PR.ok e k).err] = [SpG TT.1 ((chars s).length : Int) k false] from rfl]
      have hg : hget ((r, 7, e.args.map ExO) :: (rp, 4, [SpG TT.1 ((chars s).length : Int) k false]) :: H) rp = some (4, [SpG TT.1 ((chars s).length : Int) k false]) := by rw [hget_old hrp]; exact hget_new
      rcases Nat.lt_or_ge k TT.1.length with hlt | hge
      · have e2 : ((k : Int) < TT.1.length) = True := eq_true (by omega)
        have e1 := hK.ng k
        have e3 := hK.ge k
        have hf := w39 hK k hk false rp ((r, 7, e.args.map ExO) :: (rp, 4, [SpG TT.1 ((chars s).length : Int) k false]) :: H) hg
        rw [if_pos hlt]
        ((try with_reducible refine mkQI ?_); (repeat ((first | (with_reducible refine mkQU ?_) | simp only [brGen]); try simp (maxSteps := 2000000) only [↓ S2, S2, vIte, ↓reduceIte, Int.reduceNe, Nat.reduceEqDiff, reduceCtorEq, Nat.reduceLeDiff, Nat.reduceAdd, Nat.reduceLT, hrp, hg, bdO_f, m1lt, m1ge, e2, decide_true, decide_false])); (try simp +contextual (disch := omega) only [Z2, hrp, hg, bdO_f, m1lt, m1ge, e2, decide_true, decide_false]); (repeat' (first | (with_reducible intro h) | (with_reducible refine And.intro (by omega) ?_) | (with_reducible refine exP (by omega) ?_) | (with_reducible apply And.intro))))
        refine callS.of hf ?_
        rintro _ _ ⟨rfl, rfl⟩ _
        rw [hset_old hrp, hset_new]
        have hg2 : hget ((r, 7, e.args.map ExO) :: (rp, 4, [SpG TT.1 ((chars s).length : Int) k true]) :: H) rp = some (4, [SpG TT.1 ((chars s).length : Int) k true]) := by rw [hget_old hrp]; exact hget_new
        ((try with_reducible refine mkQI ?_); (repeat ((first | (with_reducible refine mkQU ?_) | simp only [brGen]); try simp (maxSteps := 2000000) only [↓ S2, S2, vIte, ↓reduceIte, Int.reduceNe, Nat.reduceEqDiff, reduceCtorEq, Nat.reduceLeDiff, Nat.reduceAdd, Nat.reduceLT, hrp, hg2, bdO_t, e1, e3, decide_true, decide_false])); (try simp +contextual (disch := omega) only [Z2, hrp, hg2, bdO_t, e1, e3, decide_true, decide_false]); (repeat' (first | (with_reducible intro h) | (with_reducible refine And.intro (by omega) ?_) | (with_reducible refine exP (by omega) ?_) | (with_reducible apply And.intro))))
        all_goals exact .inr ⟨[(r, 7, e.args.map ExO), (rp, 4, [SpG TT.1 ((chars s).length : Int) k true])], rfl, rfl, rfl⟩
      · have e2 : ((k : Int) < TT.1.length) = False := eq_false (by omega)
        rw [if_neg (by omega)]
        ((try with_reducible refine mkQI ?_); (repeat ((first | (with_reducible refine mkQU ?_) | simp only [brGen]); try simp (maxSteps := 2000000) only [↓ S2, S2, vIte, ↓reduceIte, Int.reduceNe, Nat.reduceEqDiff, reduceCtorEq, Nat.reduceLeDiff, Nat.reduceAdd, Nat.reduceLT, hrp, hg, bdO_f, m1lt, m1ge, e2, decide_true, decide_false])); (try simp +contextual (disch := omega) only [Z2, hrp, hg, bdO_f, m1lt, m1ge, e2, decide_true, decide_false]); (repeat' (first | (with_reducible intro h) | (with_reducible refine And.intro (by omega) ?_) | (with_reducible refine exP (by omega) ?_) | (with_reducible apply And.intro))))
        obtain ⟨v1, v2⟩ := hV e k rfl
        have hb : Bor ((r, 7, e.args.map ExO) :: (rp, 4, [SpG TT.1 ((chars s).length : Int) k false]) :: H) (EO r e) (Ex e) := bor_EO hget_new
        refine callS.borA (w12 e v1 v2) (.cons hb .nil) rfl ?_
        by_cases hv : validE e = true
        · rw [hv, if_pos rfl]
          ((try with_reducible refine mkQI ?_); (repeat ((first | (with_reducible refine mkQU ?_) | simp only [brGen]); try simp (maxSteps := 2000000) only [↓ S2, S2, vIte, ↓reduceIte, Int.reduceNe, Nat.reduceEqDiff, reduceCtorEq, Nat.reduceLeDiff, Nat.reduceAdd, Nat.reduceLT, hrp, hg])); (try simp +contextual (disch := omega) only [Z2, hrp, hg]); (repeat' (first | (with_reducible intro h) | (with_reducible refine And.intro (by omega) ?_) | (with_reducible refine exP (by omega) ?_) | (with_reducible apply And.intro))))
          all_goals exact .inl ⟨r, rp, _, rfl, rfl⟩
        · have hv' : validE e = false := Bool.eq_false_iff.2 hv
          rw [hv', if_neg (by decide)]
          ((try with_reducible refine mkQI ?_); (repeat ((first | (with_reducible refine mkQU ?_) | simp only [brGen]); try simp (maxSteps := 2000000) only [↓ S2, S2, vIte, ↓reduceIte, Int.reduceNe, Nat.reduceEqDiff, reduceCtorEq, Nat.reduceLeDiff, Nat.reduceAdd, Nat.reduceLT, hrp, hg])); (try simp +contextual (disch := omega) only [Z2, hrp, hg]); (repeat' (first | (with_reducible intro h) | (with_reducible refine And.intro (by omega) ?_) | (with_reducible refine exP (by omega) ?_) | (with_reducible apply And.intro))))
          all_goals exact .inr ⟨[(r, 7, e.args.map ExO), (rp, 4, [SpG TT.1 ((chars s).length : Int) k false])], rfl, rfl, rfl⟩
theorem w16 (s : ByteArray) (hs : (chars s).length ≤ 1048576) : Pure Tryz.prog 16 [T s] (· = .tup [Ex (parV (chars s)).1, I (parV (chars s)).2]) :=
  Pure.bor ((o16 s hs []).mono fun _ _ h => h.bor)
end Go.Proofs.YtkmedfejmndmjaaGreatDoor

namespace Go.Proofs.YtkmedfejmndmjaaGreatDoor
open Go.Gh
set_option maxRecDepth 20000
set_option linter.unusedSimpArgs false
set_option linter.unusedVariables false
open Go.Lib
set_option maxHeartbeats 8000000 in
theorem p4 (s : ByteArray) (hs0 : s.size ≤ maxLen) : PureT Tryz.prog (tabE 1 3) 4 [T s] (· = B true) := by
  have hs1 := hs0
  simp only [maxLen, size_chars] at hs1
  refine (?_ : GCalls _ _ _ _ _)
  refine GCalls.mono (R := fun g _ => g = B true) ?_ fun _ _ h => h
  refine gstart mxd i4 rfl (by simp) ?_; simp (maxSteps := 2000000) only [↓ S2, S2, vIte, ↓reduceIte, Int.reduceNe, Nat.reduceEqDiff, reduceCtorEq, Nat.reduceLeDiff, Nat.reduceAdd, Nat.reduceLT]
  ((try with_reducible refine mkQI ?_); (repeat ((first | (with_reducible refine mkQU ?_) | simp only [brGen]); try simp (maxSteps := 4000000) +contextual only [↓ S2, S2, vIte, ↓reduceIte, Int.reduceNe, Nat.reduceEqDiff, reduceCtorEq, Nat.reduceLeDiff, Nat.reduceAdd, Nat.reduceLT, hget_c, hset_c, hdel_c, neN, neA_cons, neA_nil, ])); (try simp +contextual (disch := omega) only [Z2, ]); (repeat' (first | (with_reducible intro h) | (with_reducible refine And.intro (by omega) ?_) | (with_reducible refine exP (by omega) ?_) | (with_reducible apply And.intro))))
  all_goals try (exfalso; omega)
  have hs : (chars s).length ≤ 1048576 := by omega
  have q1 := w16 s hs
  have q2 := o13 s hs
  have hsm : 1 + (smw ctE (parV (chars s)).1.args : Int) < 9223372036854775807 := parV_sm _
  generalize parV (chars s) = A at *
  obtain ⟨e, b⟩ := A
  dsimp only at q1 q2 hsm
  have hag : Go.Gh.isAgg (Ex e) = true := by rw [Ex_eq]; rfl
  refine callS.eq q1 ?_
  ((try with_reducible refine mkQI ?_); (repeat ((first | (with_reducible refine mkQU ?_) | simp only [brGen]); try simp (maxSteps := 4000000) +contextual only [↓ S2, S2, vIte, ↓reduceIte, Int.reduceNe, Nat.reduceEqDiff, reduceCtorEq, Nat.reduceLeDiff, Nat.reduceAdd, Nat.reduceLT, hget_c, hset_c, hdel_c, neN, neA_cons, neA_nil, XE])); (try simp +contextual (disch := omega) only [Z2, XE]); (repeat' (first | (with_reducible intro h) | (with_reducible refine And.intro (by omega) ?_) | (with_reducible refine exP (by omega) ?_) | (with_reducible apply And.intro))))
  refine callS.of (q2 _ fun _ h => h) ?_
  rintro _ _ ⟨_, ⟨r, rfl, rfl⟩, rfl⟩ hn
  simp only [List.cons_append, List.nil_append] at hn ⊢
  ((try with_reducible refine mkQI ?_); (repeat ((first | (with_reducible refine mkQU ?_) | simp only [brGen]); try simp (maxSteps := 4000000) +contextual only [↓ S2, S2, vIte, ↓reduceIte, Int.reduceNe, Nat.reduceEqDiff, reduceCtorEq, Nat.reduceLeDiff, Nat.reduceAdd, Nat.reduceLT, hget_c, hset_c, hdel_c, neN, neA_cons, neA_nil, XE, hag])); (try simp +contextual (disch := omega) only [Z2, XE, hag]); (repeat' (first | (with_reducible intro h) | (with_reducible refine And.intro (by omega) ?_) | (with_reducible refine exP (by omega) ?_) | (with_reducible apply And.intro))))
  ((try with_reducible refine mkQI ?_); (repeat ((first | (with_reducible refine mkQU ?_) | simp only [brGen]); try simp (maxSteps := 4000000) +contextual only [↓ S2, S2, vIte, ↓reduceIte, Int.reduceNe, Nat.reduceEqDiff, reduceCtorEq, Nat.reduceLeDiff, Nat.reduceAdd, Nat.reduceLT, hget_c, hset_c, hdel_c, neN, neA_cons, neA_nil, XE, hag])); (try simp +contextual (disch := omega) only [Z2, XE, hag]); (repeat' (first | (with_reducible intro h) | (with_reducible refine And.intro (by omega) ?_) | (with_reducible refine exP (by omega) ?_) | (with_reducible apply And.intro))))
  refine callS.borA (w17 e e) (.cons (bor_EO hget_new) (.cons .refl .nil)) rfl ?_
  ((try with_reducible refine mkQI ?_); (repeat ((first | (with_reducible refine mkQU ?_) | simp only [brGen]); try simp (maxSteps := 4000000) +contextual only [↓ S2, S2, vIte, ↓reduceIte, Int.reduceNe, Nat.reduceEqDiff, reduceCtorEq, Nat.reduceLeDiff, Nat.reduceAdd, Nat.reduceLT, hget_c, hset_c, hdel_c, neN, neA_cons, neA_nil, XE, hag])); (try simp +contextual (disch := omega) only [Z2, XE, hag]); (repeat' (first | (with_reducible intro h) | (with_reducible refine And.intro (by omega) ?_) | (with_reducible refine exP (by omega) ?_) | (with_reducible apply And.intro))))
  refine callS.of (w18 e r e.args.length 1 _ hget_new rfl (by omega) hsm) ?_
  rintro _ _ ⟨rfl, rfl⟩ _
  rw [hset_new]
  have hln : (smk ctE mkE e.args 1).length = e.args.length := smk_len _ _ _ _
  obtain ⟨e', he'⟩ : ∃ e' : Exp, e' = .mk e.kind e.n e.pos e.type e.sym e.name (smk ctE mkE e.args 1) := ⟨_, rfl⟩
  have ha' : e'.args = smk ctE mkE e.args 1 := by rw [he']; rfl
  have hb' : ∀ H, Bor ((r, 7, (smk ctE mkE e.args 1).map ExO) :: H) (EO r e) (Ex e') := by
    intro H
    have := bor_EO (H := (r, 7, (smk ctE mkE e.args 1).map ExO) :: H) (r := r) (e := e') (by rw [ha']; exact hget_new)
    have e1 : EO r e' = EO r e := by subst he'; show GV.agg [_, _, _, _, _, _, .own r 7 0 (smk ctE mkE e.args 1).length] = _; rw [hln]; rfl
    rw [← e1]
    exact this
  ((try with_reducible refine mkQI ?_); (repeat ((first | (with_reducible refine mkQU ?_) | simp only [brGen]); try simp (maxSteps := 4000000) +contextual only [↓ S2, S2, vIte, ↓reduceIte, Int.reduceNe, Nat.reduceEqDiff, reduceCtorEq, Nat.reduceLeDiff, Nat.reduceAdd, Nat.reduceLT, hget_c, hset_c, hdel_c, neN, neA_cons, neA_nil, XE, hag])); (try simp +contextual (disch := omega) only [Z2, XE, hag]); (repeat' (first | (with_reducible intro h) | (with_reducible refine And.intro (by omega) ?_) | (with_reducible refine exP (by omega) ?_) | (with_reducible apply And.intro))))
  refine callS.borA (w19 e' e.args 1 ha' (by omega) hsm) (.cons (hb' _) (.cons .refl .nil)) rfl ?_
  ((try with_reducible refine mkQI ?_); (repeat ((first | (with_reducible refine mkQU ?_) | simp only [brGen]); try simp (maxSteps := 4000000) +contextual only [↓ S2, S2, vIte, ↓reduceIte, Int.reduceNe, Nat.reduceEqDiff, reduceCtorEq, Nat.reduceLeDiff, Nat.reduceAdd, Nat.reduceLT, hget_c, hset_c, hdel_c, neN, neA_cons, neA_nil, XE, hag])); (try simp +contextual (disch := omega) only [Z2, XE, hag]); (repeat' (first | (with_reducible intro h) | (with_reducible refine And.intro (by omega) ?_) | (with_reducible refine exP (by omega) ?_) | (with_reducible apply And.intro))))
  refine callS.of (q2 _ fun _ h => List.mem_cons_of_mem _ h) ?_
  rintro _ _ ⟨_, ⟨r2, rfl, rfl⟩, rfl⟩ hn2
  simp only [List.cons_append, List.nil_append] at hn2 ⊢
  ((try with_reducible refine mkQI ?_); (repeat ((first | (with_reducible refine mkQU ?_) | simp only [brGen]); try simp (maxSteps := 4000000) +contextual only [↓ S2, S2, vIte, ↓reduceIte, Int.reduceNe, Nat.reduceEqDiff, reduceCtorEq, Nat.reduceLeDiff, Nat.reduceAdd, Nat.reduceLT, hget_c, hset_c, hdel_c, neN, neA_cons, neA_nil, XE, hag])); (try simp +contextual (disch := omega) only [Z2, XE, hag]); (repeat' (first | (with_reducible intro h) | (with_reducible refine And.intro (by omega) ?_) | (with_reducible refine exP (by omega) ?_) | (with_reducible apply And.intro))))
  ((try with_reducible refine mkQI ?_); (repeat ((first | (with_reducible refine mkQU ?_) | simp only [brGen]); try simp (maxSteps := 4000000) +contextual only [↓ S2, S2, vIte, ↓reduceIte, Int.reduceNe, Nat.reduceEqDiff, reduceCtorEq, Nat.reduceLeDiff, Nat.reduceAdd, Nat.reduceLT, hget_c, hset_c, hdel_c, neN, neA_cons, neA_nil, XE, hag])); (try simp +contextual (disch := omega) only [Z2, XE, hag]); (repeat' (first | (with_reducible intro h) | (with_reducible refine And.intro (by omega) ?_) | (with_reducible refine exP (by omega) ?_) | (with_reducible apply And.intro))))
  refine callS.borA (w17 e e) (.cons (bor_EO hget_new) (.cons .refl .nil)) rfl ?_
  ((try with_reducible refine mkQI ?_); (repeat ((first | (with_reducible refine mkQU ?_) | simp only [brGen]); try simp (maxSteps := 4000000) +contextual only [↓ S2, S2, vIte, ↓reduceIte, Int.reduceNe, Nat.reduceEqDiff, reduceCtorEq, Nat.reduceLeDiff, Nat.reduceAdd, Nat.reduceLT, hget_c, hset_c, hdel_c, neN, neA_cons, neA_nil, XE, hag])); (try simp +contextual (disch := omega) only [Z2, XE, hag]); (repeat' (first | (with_reducible intro h) | (with_reducible refine And.intro (by omega) ?_) | (with_reducible refine exP (by omega) ?_) | (with_reducible apply And.intro))))
  have hr2 : r2 ≠ r := ne_of_new hn2 hget_new
  have hb2 : Bor ((r2, 7, e.args.map ExO) :: (r, 7, (smk ctE mkE e.args 1).map ExO) :: tabE 1 3) (EO r e) (Ex e') := by
    have := bor_EO (H := (r2, 7, e.args.map ExO) :: (r, 7, (smk ctE mkE e.args 1).map ExO) :: tabE 1 3) (r := r) (e := e') (by rw [ha', hget_old hr2]; exact hget_new)
    have e1 : EO r e' = EO r e := by subst he'; show GV.agg [_, _, _, _, _, _, .own r 7 0 (smk ctE mkE e.args 1).length] = _; rw [hln]; rfl
    rw [← e1]
    exact this
  refine callS.borA (w19 e' e.args 1 ha' (by omega) hsm) (.cons hb2 (.cons .refl .nil)) rfl ?_
  ((try with_reducible refine mkQI ?_); (repeat ((first | (with_reducible refine mkQU ?_) | simp only [brGen]); try simp (maxSteps := 4000000) +contextual only [↓ S2, S2, vIte, ↓reduceIte, Int.reduceNe, Nat.reduceEqDiff, reduceCtorEq, Nat.reduceLeDiff, Nat.reduceAdd, Nat.reduceLT, hget_c, hset_c, hdel_c, neN, neA_cons, neA_nil, XE, hag])); (try simp +contextual (disch := omega) only [Z2, XE, hag]); (repeat' (first | (with_reducible intro h) | (with_reducible refine And.intro (by omega) ?_) | (with_reducible refine exP (by omega) ?_) | (with_reducible apply And.intro))))
  all_goals try (exfalso; omega)
end Go.Proofs.YtkmedfejmndmjaaGreatDoor

