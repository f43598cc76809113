/- The law FnExactApplyEdits returns true whatever the input, and the input reads behind the call as before. No condition. -/
import Derived.Test.YthnchomedekciaaGreatEes11
set_option maxHeartbeats 40000000
namespace Go.Proofs.YthnchomedekciaaGreat
open Go.Gh
open Nat (reduceEqDiff reduceLeDiff reduceAdd reduceLT)
open Int (reduceNe)
set_option maxRecDepth 20000
set_option linter.unusedSimpArgs false
set_option linter.unusedVariables false
theorem w251 (g : Gram) (s : ByteArray) (hg : smGr g) : Pu 251 [Gr g, T s] (· = I (ixOf (fun y : Sym => decide (y.name = s)) g.syms)) := by
 have hl := hg.1
 refine gstart mxd i251 rfl (by simp) ?_; refine X0 ?_
 (refine V0 ?_; with_reducible repeat' first|exact trivial|intro h|refine aO ?_|refine eO ?_|apply jO)
 refine wloop mxd (ι := { i : Nat // i ≤ g.syms.length ∧ ∀ y ∈ g.syms.take i, decide (y.name = s) = false }) (fun i => [(1, T s), (2, .rop 2 (Gr g)), (5, I i.1)]) (fun _ => []) (fun i => g.syms.length - i.1) ⟨0, by simp⟩ (by simp [E2]) rfl ?_
 rintro ⟨i, hi, hn⟩
 rcases Nat.lt_or_ge i g.syms.length with hlt | hge
 ·by_cases he : g.syms[i].name = s
  ·rw [ixOf_hit hlt (by simp [he]) hn]
   (refine V1 he ?_; with_reducible repeat' first|exact trivial|intro h|refine aO ?_|refine eO ?_|apply jO)
   all_goals try (exfalso; omega)
  ·(refine V1 he ?_; with_reducible repeat' first|exact trivial|intro h|refine aO ?_|refine eO ?_|apply jO)
   all_goals try (exfalso; omega)
   exact nx ⟨i + 1, by omega, take_step hlt (by simp [he]) hn⟩ (by simp <;> omega) (by simp [E2]) rfl
 ·obtain rfl : i = g.syms.length := by omega
  rw [List.take_length] at hn
  rw [ixOf_none hn]
  (refine V0 ?_; with_reducible repeat' first|exact trivial|intro h|refine aO ?_|refine eO ?_|apply jO)
  all_goals try (exfalso; omega)
theorem w295 (g : Gram) (s : ByteArray) (out : List Int) (hg : smGr g) (ho : out.length = g.syms.length) : Pu 295 [Gr g, T s, IS out] (· = B (rchS g out s)) := by
 have hl := hg.1
 have hl2 := hg.2.1
 refine gstart mxd i295 rfl (by simp) ?_; refine X0 ?_
 (refine V0 ?_; with_reducible repeat' first|exact trivial|intro h|refine aO ?_|refine eO ?_|apply jO)
 refine wloop mxd (ι := { i : Nat // i ≤ g.rules.length ∧ ∀ r ∈ g.rules.take i, rchR g out s r = false }) (fun i => [(1, T s), (2, IS out), (3, .rop 2 (Gr g)), (7, I i.1)]) (fun _ => []) (fun i => g.rules.length - i.1) ⟨0, by simp⟩ (by simp [E2]) rfl ?_
 rintro ⟨i, hi, hn⟩
 rcases Nat.lt_or_ge i g.rules.length with hlt | hge
 ·have hr := hg.2.2.2 _ (List.getElem_mem hlt)
  have hrl := hr.1
  (refine V0 ?_; with_reducible repeat' first|exact trivial|intro h|refine aO ?_|refine eO ?_|apply jO)
  all_goals try (exfalso; omega)
  have hz : decide (g.rules[i].left = s) = rchP g out s g.rules[i] 0 := by simp [rchP]
  refine wloop mxd (ι := { k : Nat // k ≤ g.rules[i].right.length }) (fun k => [(1, T s), (2, IS out), (3, .rop 2 (Gr g)), (7, I i), (8, .rop 6 (Ru g.rules[i])), (9, B (rchP g out s g.rules[i] k.1)), (10, I k.1)]) (fun _ => []) (fun k => g.rules[i].right.length - k.1) ⟨0, by simp⟩ (by simp [E2, hz]) rfl ?_
  rintro ⟨k, hk⟩
  rcases Nat.lt_or_ge k g.rules[i].right.length with hlt2 | hge2
  ·have hst := rchP_step (g := g) (out := out) (s := s) hlt2
   have hix := ixOf_cases (fun y : Sym => decide (y.name = g.rules[i].right[k])) g.syms
   have hho : hOf g out g.rules[i].right[k] = if ixOf (fun y : Sym => decide (y.name = g.rules[i].right[k])) g.syms < 0 then 0 else out.getD (ixOf (fun y : Sym => decide (y.name = g.rules[i].right[k])) g.syms).toNat 0 := rfl
   (refine V0 ?_; with_reducible repeat' first|exact trivial|intro h|refine aO ?_|refine eO ?_|apply jO)
   all_goals try (exfalso; omega)
   refine callS.eq (w251 g g.rules[i].right[k] hg) ?_
   rcases (Bool.eq_false_or_eq_true (rchP g out s g.rules[i] k)).symm with hv | hv
   ·rw [hv, Bool.false_and] at hst
    (refine V1 hv ?_; with_reducible repeat' first|exact trivial|intro h|refine aO ?_|refine eO ?_|apply jO)
    exact nx ⟨k + 1, by omega⟩ (by simp <;> omega) (by simp [E2, hst]) rfl
   ·rw [hv, Bool.true_and] at hst
    rcases hix with hx | ⟨hx, hx2⟩
    ·rw [hx] at hho ⊢
     rw [if_pos (by omega)] at hho
     rw [hho] at hst
     (refine V2 (jO hv (jO @ge_iff_le.{0} @decide_false)) ?_; with_reducible repeat' first|exact trivial|intro h|refine aO ?_|refine eO ?_|apply jO)
     exact nx ⟨k + 1, by omega⟩ (by simp <;> omega) (by simp [E2, hst]) rfl
    ·obtain ⟨a, ha⟩ : ∃ a : Nat, ixOf (fun y : Sym => decide (y.name = g.rules[i].right[k])) g.syms = a := ⟨(ixOf (fun y : Sym => decide (y.name = g.rules[i].right[k])) g.syms).toNat, by omega⟩
     rw [ha] at hho hx hx2 ⊢
     have ha2 : a < out.length := by omega
     rw [if_neg (by omega), Int.toNat_natCast, getD_lt ha2] at hho
     rw [hho] at hst
     have hmx : max (a : Int) 0 = a := by omega
     (refine V1 (jO hv (jO hx (jO @ge_iff_le.{0} @decide_true))) ?_; with_reducible repeat' first|exact trivial|intro h|refine aO ?_|refine eO ?_|apply jO)
     refine callS.eq (w82 _ _) ?_
     rw [hmx]
     (refine V1 hst ?_; with_reducible repeat' first|exact trivial|intro h|refine aO ?_|refine eO ?_|apply jO)
     all_goals try (exfalso; omega)
     exact nx ⟨k + 1, by omega⟩ (by simp <;> omega) (by simp [E2, hst]) rfl
  ·obtain rfl : k = g.rules[i].right.length := by omega
   have he := rchP_end g out s g.rules[i]
   rcases (Bool.eq_false_or_eq_true (rchR g out s g.rules[i])).symm with hw | hw
   ·rw [he, hw]
    (refine V0 ?_; with_reducible repeat' first|exact trivial|intro h|refine aO ?_|refine eO ?_|apply jO)
    all_goals try (exfalso; omega)
    exact nx ⟨i + 1, by omega, takeP_step hlt hw hn⟩ (by simp <;> omega) (by simp [E2]) rfl
   ·have : rchS g out s = true := any_yes hlt hw
    rw [he, hw, this]
    (refine V0 ?_; with_reducible repeat' first|exact trivial|intro h|refine aO ?_|refine eO ?_|apply jO)
    all_goals try (exfalso; omega)
 ·obtain rfl : i = g.rules.length := by omega
  rw [List.take_length] at hn
  have : rchS g out s = false := any_no hn
  rw [this]
  (refine V0 ?_; with_reducible repeat' first|exact trivial|intro h|refine aO ?_|refine eO ?_|apply jO)
  all_goals try (exfalso; omega)
theorem w252 (g : Gram) (hg : smGr g) (h4 : g.syms.length ≤ 4) : Pu 252 [Gr g] (· = IS (hgts g)) := by
 refine Pure.bor ?_
 refine gstart mxd i252 rfl (by simp) ?_; refine X0 ?_
 (refine V0 ?_; with_reducible repeat' first|exact trivial|intro h|refine aO ?_|refine eO ?_|apply jO)
 all_goals try (exfalso; omega)
 rename_i r0
 refine ploop mxd (ι := { x : Nat × Nat // x.2 ≤ g.syms.length }) (fun x => [(1, .rop 2 (Gr g)), (3, .own x.1.1 1 0 g.syms.length), (4, I ((x.1.2 : Int) + 1))]) (fun x => [(x.1.1, 1, (hIt g x.1.2).map I)]) (fun x => g.syms.length - x.1.2) ⟨(r0, 0), by simp⟩ (by simp [E2]) (by simp [subH, hget, names, hIt]) ?_
 rintro ⟨⟨q, k⟩, hk⟩ hn0
 dsimp only at hk hn0 ⊢
 have hol := hIt_len g k
 rcases Nat.lt_or_ge k g.syms.length with hlt | hge
 ·(refine V1 (jO @List.length_map.{0,0} hol) ?_; with_reducible repeat' first|exact trivial|intro h|refine aO ?_|refine eO ?_|apply jO)
  all_goals try (exfalso; omega)
  rename_i q2 hq2 q3
  rw [soT_I hol]
  (refine V1 (jO @List.length_map.{0,0} (jO @List.length_append.{0} (jO @List.length_nil.{0} (jO hol @maxLv)))) ?_; with_reducible repeat' first|exact trivial|intro h|refine aO ?_|refine eO ?_|apply jO)
  all_goals try (exfalso; omega)
  rename_i r5
  refine ploop mxd (ι := { x : Nat × List Int // x.1 ≤ g.syms.length ∧ nxt g k x.1 x.2 }) (fun x => [(1, .rop 2 (Gr g)), (3, .own q 1 0 g.syms.length), (4, I ((k : Int) + 1)), (5, .own r5 1 0 g.syms.length), (6, I x.1.1)]) (fun x => [(r5, 1, x.1.2.map I), (q, 1, (hIt g k).map I)]) (fun x => g.syms.length - x.1.1) ⟨(0, hIt g k), by omega, nxt_0 g k⟩ (by simp [E2]) (by repeat' (first | exact trivial | (refine And.intro (by simp only [hget_c, *, if_true, if_false]; try rfl) (And.intro (by simp [names_cons, names_nil, *]) ?_)))) ?_
  rintro ⟨⟨i, Y⟩, hi, hY⟩ hn2
  dsimp only at hi hY hn2 ⊢
  (replace hn2 := hn2; simp only [VN] at hn2)
  have hYl := hY.1
  rcases Nat.lt_or_ge i g.syms.length with hlt2 | hge2
  ·have hg1 : (hIt g k).getD i 0 = (hIt g k)[i] := getD_lt (by omega)
   have hg2 : g.syms.getD i symZ = g.syms[i] := getD_lt hlt2
   have hnx : hNext g ((k : Int) + 1) (hIt g k) i = if 0 < (hIt g k)[i] then (hIt g k)[i] else if rchS g (hIt g k) g.syms[i].name = true then (k : Int) + 1 else (hIt g k)[i] := by simp only [hNext, hg1, hg2]
   have hnn := hIt_nn g k _ (List.getElem_mem (show i < (hIt g k).length by omega))
   by_cases hz : (hIt g k)[i] = 0
   ·rw [if_neg (by omega)] at hnx
    (refine V1 (jO hn2 (jO hz (jO @List.length_map.{0,0} (jO hol (jO hYl @decide_true))))) ?_; with_reducible repeat' first|exact trivial|intro h|refine aO ?_|refine eO ?_|apply jO)
    all_goals try (exfalso; omega)
    refine callS.borA (w295 g g.syms[i].name (hIt g k) hg hol) (.cons .refl (.cons .refl (.cons (bor_IS (by simp [hget_c, hn2]) hol) .nil))) rfl ?_
    rcases (Bool.eq_false_or_eq_true (rchS g (hIt g k) g.syms[i].name)).symm with hv | hv
    ·rw [hv, if_neg (by simp)] at hnx
     (refine V1 hv ?_; with_reducible repeat' first|exact trivial|intro h|refine aO ?_|refine eO ?_|apply jO)
     exact px ⟨(i + 1, Y), by omega, nxt_keep hY hlt2 (by rw [hnx, hg1])⟩ (by simp <;> omega) (by simp [E2]) (by repeat' (first | exact trivial | (refine And.intro (by simp only [hget_c, *, if_true, if_false]; try rfl) (And.intro (by simp [names_cons, names_nil, *]) ?_))))
    ·rw [hv, if_pos rfl] at hnx
     (refine V1 (jO hn2 (jO hv (jO @List.length_map.{0,0} hYl))) ?_; with_reducible repeat' first|exact trivial|intro h|refine aO ?_|refine eO ?_|apply jO)
     all_goals try (exfalso; omega)
     refine px ⟨(i + 1, Y.set i ((k : Int) + 1)), by omega, nxt_set hY hlt2 hnx⟩ (by simp <;> omega) (by simp [E2]) ?_
     show subH _ [(r5, 1, (Y.set i ((k : Int) + 1)).map I), (q, 1, (hIt g k).map I)]
     rw [List.map_set]
     exact (by repeat' (first | exact trivial | (refine And.intro (by simp only [hget_c, *, if_true, if_false]; try rfl) (And.intro (by simp [names_cons, names_nil, *]) ?_))))
   ·rw [if_pos (by omega)] at hnx
    (refine V1 (jO hn2 (jO hz (jO @List.length_map.{0,0} (jO hol (jO hYl @decide_false))))) ?_; with_reducible repeat' first|exact trivial|intro h|refine aO ?_|refine eO ?_|apply jO)
    all_goals try (exfalso; omega)
    exact px ⟨(i + 1, Y), by omega, nxt_keep hY hlt2 (by rw [hnx, hg1])⟩ (by simp <;> omega) (by simp [E2]) (by repeat' (first | exact trivial | (refine And.intro (by simp only [hget_c, *, if_true, if_false]; try rfl) (And.intro (by simp [names_cons, names_nil, *]) ?_))))
  ·obtain rfl : i = g.syms.length := by omega
   have hYe := nxt_n hY
   subst hYe
   (refine V1 hn2 ?_; with_reducible repeat' first|exact trivial|intro h|refine aO ?_|refine eO ?_|apply jO)
   all_goals try (exfalso; omega)
   exact px ⟨(r5, k + 1), by omega⟩ (by simp <;> omega) (by simp [E2]) (by repeat' (first | exact trivial | (refine And.intro (by simp only [hget_c, *, if_true, if_false]; try rfl) (And.intro (by simp [names_cons, names_nil, *]) ?_))))
 ·obtain rfl : k = g.syms.length := by omega
  (refine V0 ?_; with_reducible repeat' first|exact trivial|intro h|refine aO ?_|refine eO ?_|apply jO)
  all_goals try (exfalso; omega)
  exact bor_IS hget_new (hgts_len g)
theorem w198 (g : Gram) (s : ByteArray) (hg : smGr g) (h4 : g.syms.length ≤ 4) : Pu 198 [Gr g, T s] (· = I (minH g s)) := by
 have hl := hgts_len g
 have hix := ixOf_cases (fun y : Sym => decide (y.name = s)) g.syms
 have hm : minH g s = if ixOf (fun y : Sym => decide (y.name = s)) g.syms < 0 then 0 else (hgts g).getD (ixOf (fun y : Sym => decide (y.name = s)) g.syms).toNat 0 := rfl
 refine gstart mxd i198 rfl (by simp) ?_; refine X0 ?_
 (refine V0 ?_; with_reducible repeat' first|exact trivial|intro h|refine aO ?_|refine eO ?_|apply jO)
 refine callS.eq (w251 g s hg) ?_
 rcases hix with hx | ⟨hx, hx2⟩
 ·rw [hx, if_pos (by omega)] at hm
  rw [hx, hm]
  (refine V2 @decide_true ?_; with_reducible repeat' first|exact trivial|intro h|refine aO ?_|refine eO ?_|apply jO)
 ·obtain ⟨a, ha⟩ : ∃ a : Nat, ixOf (fun y : Sym => decide (y.name = s)) g.syms = a := ⟨(ixOf (fun y : Sym => decide (y.name = s)) g.syms).toNat, by omega⟩
  rw [ha] at hx hx2 hm ⊢
  rw [if_neg (by omega), Int.toNat_natCast, getD_lt (by omega)] at hm
  rw [hm]
  (refine V0 ?_; with_reducible repeat' first|exact trivial|intro h|refine aO ?_|refine eO ?_|apply jO)
  all_goals try (exfalso; omega)
  refine callS.eq (w252 g hg h4) ?_
  (refine V1 (jO @List.length_map.{0,0} hl) ?_; with_reducible repeat' first|exact trivial|intro h|refine aO ?_|refine eO ?_|apply jO)
  all_goals try (exfalso; omega)
theorem w135 (g : Gram) (s : ByteArray) (hg : smGr g) (h4 : g.syms.length ≤ 4) : Pu 135 [Gr g, T s] (· = B (decide (0 < minH g s))) := by
 refine gstart mxd i135 rfl (by simp) ?_; refine X0 ?_
 (refine V0 ?_; with_reducible repeat' first|exact trivial|intro h|refine aO ?_|refine eO ?_|apply jO)
 refine callS.eq (w198 g s hg h4) ?_
 (refine V1 @gt_iff_lt.{0} ?_; with_reducible repeat' first|exact trivial|intro h|refine aO ?_|refine eO ?_|apply jO)
theorem o215 (g : Gram) (s : ByteArray) (out : List Int) (rb q n : Nat) (H : GH) (hg : smGr g) (ho : out.length = g.syms.length) (hn : n = g.syms.length) (h1 : hget H rb = some (1, [.own q 1 0 n])) (h2 : hget H q = some (1, out.map I)) :
  Gc 215 [T s, .rop 2 (Gr g), .ptr rb 1 0 0] H (fun v H' => v = I (hOf g out s) ∧ H' = H) := by
 have hl := hg.1
 have hho : hOf g out s = if ixOf (fun y : Sym => decide (y.name = s)) g.syms < 0 then 0 else out.getD (ixOf (fun y : Sym => decide (y.name = s)) g.syms).toNat 0 := rfl
 refine gstart mxd i215 rfl (by simp) ?_; refine X0 ?_
 (refine V0 ?_; with_reducible repeat' first|exact trivial|intro h|refine aO ?_|refine eO ?_|apply jO)
 refine wloop mxd (ι := { i : Nat // i ≤ g.syms.length ∧ ∀ y ∈ g.syms.take i, decide (y.name = s) = false }) (fun i => [(0, T s), (1, .rop 2 (Gr g)), (2, .ptr rb 1 0 0), (8, SyS g.syms), (9, I g.syms.length), (10, I i.1)]) (fun _ => H) (fun i => g.syms.length - i.1) ⟨0, by simp⟩ (by simp [E2]) rfl ?_
 rintro ⟨i, hi, hn⟩
 rcases Nat.lt_or_ge i g.syms.length with hlt | hge
 ·by_cases he : g.syms[i].name = s
  ·rw [ixOf_hit hlt (by simp [he]) hn, if_neg (by omega), Int.toNat_natCast, getD_lt (by omega)] at hho
   rw [hho]
   (refine V1 (jO he (jO h1 (jO h2 (jO @List.length_map.{0,0} (jO ho hn))))) ?_; with_reducible repeat' first|exact trivial|intro h|refine aO ?_|refine eO ?_|apply jO)
   all_goals try (exfalso; omega)
  ·(refine V1 he ?_; with_reducible repeat' first|exact trivial|intro h|refine aO ?_|refine eO ?_|apply jO)
   all_goals try (exfalso; omega)
   exact nx ⟨i + 1, by omega, take_step hlt (by simp [he]) hn⟩ (by simp <;> omega) (by simp [E2]) rfl
 ·obtain rfl : i = g.syms.length := by omega
  rw [List.take_length] at hn
  rw [ixOf_none hn, if_pos (by omega)] at hho
  rw [hho]
  (refine V0 ?_; with_reducible repeat' first|exact trivial|intro h|refine aO ?_|refine eO ?_|apply jO)
  all_goals try (exfalso; omega)
theorem w147 (g : Gram) (hg : smGr g) (h4 : g.syms.length ≤ 4) : Pu 147 [Gr g] (· = IS (hgts g)) := by
 refine Pure.bor ?_
 have hl2 := hg.2.1
 refine gstart mxd i147 rfl (by simp) ?_; refine X0 ?_
 (refine V0 ?_; with_reducible repeat' first|exact trivial|intro h|refine aO ?_|refine eO ?_|apply jO)
 all_goals try (exfalso; omega)
 rename_i q0 _ rb
 refine ploop mxd (ι := { x : Nat × Nat // x.2 ≤ g.syms.length }) (fun x => [(1, .rop 2 (Gr g)), (3, .ptr rb 1 0 0), (4, .clo 215 [.rop 2 (Gr g), .ptr rb 1 0 0]), (5, I ((x.1.2 : Int) + 1))]) (fun x => [(rb, 1, [.own x.1.1 1 0 g.syms.length]), (x.1.1, 1, (hIt g x.1.2).map I)]) (fun x => g.syms.length - x.1.2) ⟨(q0, 0), by simp⟩ (by simp [E2]) ?_ ?_
 ·simp [subH, hget_c, names, hIt, *]
 rintro ⟨⟨q, k⟩, hk⟩ hn0
 dsimp only at hk hn0 ⊢
 (replace hn0 := hn0; simp only [VN] at hn0)
 have hol := hIt_len g k
 rcases Nat.lt_or_ge k g.syms.length with hlt | hge
 ·(refine V1 (jO hn0 (jO @List.length_map.{0,0} hol)) ?_; with_reducible repeat' first|exact trivial|intro h|refine aO ?_|refine eO ?_|apply jO)
  all_goals try (exfalso; omega)
  rename_i _ rn
  rw [soT_I hol]
  (refine V1 (jO @List.length_map.{0,0} (jO @List.length_replicate.{0} hol)) ?_; with_reducible repeat' first|exact trivial|intro h|refine aO ?_|refine eO ?_|apply jO)
  all_goals try (exfalso; omega)
  rw [Nat.min_self]
  refine ploop mxd (ι := { x : Nat × List Int // x.1 ≤ g.syms.length ∧ nxt g k x.1 x.2 }) (fun x => [(1, .rop 2 (Gr g)), (3, .ptr rb 1 0 0), (4, .clo 215 [.rop 2 (Gr g), .ptr rb 1 0 0]), (5, I ((k : Int) + 1)), (6, .own rn 1 0 g.syms.length), (33, SyS g.syms), (34, I g.syms.length), (35, I x.1.1)]) (fun x => [(rn, 1, x.1.2.map I), (rb, 1, [.own q 1 0 g.syms.length]), (q, 1, (hIt g k).map I)]) (fun x => g.syms.length - x.1.1) ⟨(0, hIt g k), by omega, nxt_0 g k⟩ (by simp [E2]) ?_ ?_
  ·rw [show List.take g.syms.length (List.map I (hIt g k)) = List.map I (hIt g k) from List.take_of_length_le (by simp [hol]), List.drop_of_length_le (by simp), List.append_nil]
   exact (by repeat' (first | exact trivial | (refine And.intro (by simp only [hget_c, *, if_true, if_false]; try rfl) (And.intro (by simp [names_cons, names_nil, *]) ?_))))
  rintro ⟨⟨i, Y⟩, hi, hY⟩ hn2
  dsimp only at hi hY hn2 ⊢
  (replace hn2 := hn2; simp only [VN] at hn2)
  have hYl := hY.1
  rcases Nat.lt_or_ge i g.syms.length with hlt2 | hge2
  ·have hg1 : (hIt g k).getD i 0 = (hIt g k)[i] := getD_lt (by omega)
   have hg2 : g.syms.getD i symZ = g.syms[i] := getD_lt hlt2
   have hnx : hNext g ((k : Int) + 1) (hIt g k) i = if 0 < (hIt g k)[i] then (hIt g k)[i] else if rchS g (hIt g k) g.syms[i].name = true then (k : Int) + 1 else (hIt g k)[i] := by simp only [hNext, hg1, hg2]
   have hnn := hIt_nn g k _ (List.getElem_mem (show i < (hIt g k).length by omega))
   by_cases hz : 0 < (hIt g k)[i]
   ·rw [if_pos (by omega)] at hnx
    (refine V1 (jO hn2 (jO hz (jO @List.length_map.{0,0} (jO hol (jO hYl (jO @gt_iff_lt.{0} @decide_true)))))) ?_; with_reducible repeat' first|exact trivial|intro h|refine aO ?_|refine eO ?_|apply jO)
    all_goals try (exfalso; omega)
    exact px ⟨(i + 1, Y), by omega, nxt_keep hY hlt2 (by rw [hnx, hg1])⟩ (by simp <;> omega) (by simp [E2]) (by repeat' (first | exact trivial | (refine And.intro (by simp only [hget_c, *, if_true, if_false]; try rfl) (And.intro (by simp [names_cons, names_nil, *]) ?_))))
   ·rw [if_neg hz] at hnx
    have hz0 : (hIt g k)[i] = 0 := by omega
    (refine V1 (jO hn2 (jO hz (jO @List.length_map.{0,0} (jO hol (jO hYl (jO @gt_iff_lt.{0} @decide_false)))))) ?_; with_reducible repeat' first|exact trivial|intro h|refine aO ?_|refine eO ?_|apply jO)
    all_goals try (exfalso; omega)
    obtain ⟨Z, hZ⟩ : ∃ Z : Nat → List Int, ∀ j, Z j = if ((g.rules.take j).any (rchR g (hIt g k) g.syms[i].name)) = true then Y.set i ((k : Int) + 1) else Y := ⟨_, fun _ => rfl⟩
    have hZl : ∀ j, (Z j).length = g.syms.length := fun j => by rw [hZ]; split <;> simp [hYl]
    have hZ0 : Z 0 = Y := by rw [hZ]; simp
    have hZs1 : ∀ j (hj : j < g.rules.length), rchR g (hIt g k) g.syms[i].name g.rules[j] = false → Z (j + 1) = Z j := fun j hj hb => by
     rw [hZ, hZ, List.take_add_one, List.getElem?_eq_getElem hj, Option.toList_some, List.any_append]; simp [hb]
    have hZs2 : ∀ j (hj : j < g.rules.length), rchR g (hIt g k) g.syms[i].name g.rules[j] = true → Z (j + 1) = (Z j).set i ((k : Int) + 1) := fun j hj hb => by
     rw [hZ, hZ, List.take_add_one, List.getElem?_eq_getElem hj, Option.toList_some, List.any_append]
     simp only [List.any_cons, hb, Bool.true_or, Bool.or_true, if_true]
     split
     ·rw [List.set_set]
     ·rfl
    have hZe : nxt g k (i + 1) (Z g.rules.length) := by
     rw [hZ, List.take_length]
     have e : rchS g (hIt g k) g.syms[i].name = g.rules.any (rchR g (hIt g k) g.syms[i].name) := rfl
     rw [← e]
     split
     ·rename_i hh
      rw [if_pos hh] at hnx
      exact nxt_set hY hlt2 hnx
     ·rename_i hh
      rw [if_neg hh] at hnx
      exact nxt_keep hY hlt2 (by rw [hnx, hg1])
    clear hZ
    refine ploop mxd (ι := { j : Nat // j ≤ g.rules.length }) (fun j => [(1, .rop 2 (Gr g)), (3, .ptr rb 1 0 0), (4, .clo 215 [.rop 2 (Gr g), .ptr rb 1 0 0]), (5, I ((k : Int) + 1)), (6, .own rn 1 0 g.syms.length), (33, SyS g.syms), (34, I g.syms.length), (35, I i), (7, I i), (8, .rop 2 (Sy g.syms[i])), (46, RuS g.rules), (47, I g.rules.length), (48, I j.1)]) (fun j => [(rn, 1, (Z j.1).map I), (rb, 1, [.own q 1 0 g.syms.length]), (q, 1, (hIt g k).map I)]) (fun j => g.rules.length - j.1) ⟨0, by simp⟩ (by simp [E2]) (by rw [hZ0]; exact (by repeat' (first | exact trivial | (refine And.intro (by simp only [hget_c, *, if_true, if_false]; try rfl) (And.intro (by simp [names_cons, names_nil, *]) ?_))))) ?_
    rintro ⟨j, hj⟩ hn3
    dsimp only at hj hn3 ⊢
    (replace hn3 := hn3; simp only [VN] at hn3)
    rcases Nat.lt_or_ge j g.rules.length with hlt3 | hge3
    ·have hr := hg.2.2.2 _ (List.getElem_mem hlt3)
     have hrl := hr.1
     (refine V1 hn3 ?_; with_reducible repeat' first|exact trivial|intro h|refine aO ?_|refine eO ?_|apply jO)
     all_goals try (exfalso; omega)
     have hz1 : decide (g.rules[j].left = g.syms[i].name) = rchP g (hIt g k) g.syms[i].name g.rules[j] 0 := by simp [rchP]
     refine wloop mxd (ι := { m : Nat // m ≤ g.rules[j].right.length }) (fun m => [(1, .rop 2 (Gr g)), (3, .ptr rb 1 0 0), (4, .clo 215 [.rop 2 (Gr g), .ptr rb 1 0 0]), (5, I ((k : Int) + 1)), (6, .own rn 1 0 g.syms.length), (33, SyS g.syms), (34, I g.syms.length), (35, I i), (7, I i), (8, .rop 2 (Sy g.syms[i])), (46, RuS g.rules), (47, I g.rules.length), (48, I j), (11, B (rchP g (hIt g k) g.syms[i].name g.rules[j] m.1)), (58, TS g.rules[j].right), (59, I g.rules[j].right.length), (60, I m.1)]) (fun _ => [(rn, 1, (Z j).map I), (rb, 1, [.own q 1 0 g.syms.length]), (q, 1, (hIt g k).map I)]) (fun m => g.rules[j].right.length - m.1) ⟨0, by simp⟩ (by simp [E2, hz1]) rfl ?_
     rintro ⟨m, hm⟩
     rcases Nat.lt_or_ge m g.rules[j].right.length with hlt4 | hge4
     ·have hst := rchP_step (g := g) (out := hIt g k) (s := g.syms[i].name) hlt4
      rcases (Bool.eq_false_or_eq_true (rchP g (hIt g k) g.syms[i].name g.rules[j] m)).symm with hv | hv
      ·rw [hv, Bool.false_and] at hst
       (refine V1 (jO hn3 hv) ?_; with_reducible repeat' first|exact trivial|intro h|refine aO ?_|refine eO ?_|apply jO)
       all_goals try (exfalso; omega)
       exact nx ⟨m + 1, by omega⟩ (by simp <;> omega) (by simp [E2, hst]) rfl
      ·rw [hv, Bool.true_and] at hst
       (refine V1 (jO hn3 hv) ?_; with_reducible repeat' first|exact trivial|intro h|refine aO ?_|refine eO ?_|apply jO)
       all_goals try (exfalso; omega)
       refine callS.of (o215 g g.rules[j].right[m] (hIt g k) rb q _ _ hg hol rfl (by simp [hget_c, hn3]) (by simp [hget_c, hn3])) ?_
       rintro v H' ⟨rfl, rfl⟩ -
       (refine V1 (jO hn3 @gt_iff_lt.{0}) ?_; with_reducible repeat' first|exact trivial|intro h|refine aO ?_|refine eO ?_|apply jO)
       exact nx ⟨m + 1, by omega⟩ (by simp <;> omega) (by simp [E2, hst]) rfl
     ·obtain rfl : m = g.rules[j].right.length := by omega
      rw [rchP_end]
      have hzl := hZl j
      rcases (Bool.eq_false_or_eq_true (rchR g (hIt g k) g.syms[i].name g.rules[j])).symm with hv | hv
      ·rw [hv]
       (refine V1 hn3 ?_; with_reducible repeat' first|exact trivial|intro h|refine aO ?_|refine eO ?_|apply jO)
       all_goals try (exfalso; omega)
       refine px ⟨j + 1, by omega⟩ (by simp <;> omega) (by simp [E2]) ?_
       show subH _ [(rn, 1, (Z (j + 1)).map I), _, _]
       rw [hZs1 j hlt3 hv]
       exact (by repeat' (first | exact trivial | (refine And.intro (by simp only [hget_c, *, if_true, if_false]; try rfl) (And.intro (by simp [names_cons, names_nil, *]) ?_))))
      ·rw [hv]
       (refine V1 (jO hn3 (jO @List.length_map.{0,0} hzl)) ?_; with_reducible repeat' first|exact trivial|intro h|refine aO ?_|refine eO ?_|apply jO)
       all_goals try (exfalso; omega)
       refine px ⟨j + 1, by omega⟩ (by simp <;> omega) (by simp [E2]) ?_
       show subH _ [(rn, 1, (Z (j + 1)).map I), _, _]
       rw [hZs2 j hlt3 hv, List.map_set]
       exact (by repeat' (first | exact trivial | (refine And.intro (by simp only [hget_c, *, if_true, if_false]; try rfl) (And.intro (by simp [names_cons, names_nil, *]) ?_))))
    ·obtain rfl : j = g.rules.length := by omega
     (refine V1 hn3 ?_; with_reducible repeat' first|exact trivial|intro h|refine aO ?_|refine eO ?_|apply jO)
     all_goals try (exfalso; omega)
     exact px ⟨(i + 1, Z g.rules.length), by omega, hZe⟩ (by simp <;> omega) (by simp [E2]) (by repeat' (first | exact trivial | (refine And.intro (by simp only [hget_c, *, if_true, if_false]; try rfl) (And.intro (by simp [names_cons, names_nil, *]) ?_))))
  ·obtain rfl : i = g.syms.length := by omega
   have hYe := nxt_n hY
   subst hYe
   (refine V1 hn2 ?_; with_reducible repeat' first|exact trivial|intro h|refine aO ?_|refine eO ?_|apply jO)
   all_goals try (exfalso; omega)
   exact px ⟨(rn, k + 1), by omega⟩ (by simp <;> omega) (by simp [E2]) (by repeat' (first | exact trivial | (refine And.intro (by simp only [hget_c, *, if_true, if_false]; try rfl) (And.intro (by simp [names_cons, names_nil, *]) ?_))))
 ·obtain rfl : k = g.syms.length := by omega
  (refine V1 hn0 ?_; with_reducible repeat' first|exact trivial|intro h|refine aO ?_|refine eO ?_|apply jO)
  all_goals try (exfalso; omega)
  exact bor_IS (by simp [hget_c, hn0]; rfl) (hgts_len g)
end Go.Proofs.YthnchomedekciaaGreat
