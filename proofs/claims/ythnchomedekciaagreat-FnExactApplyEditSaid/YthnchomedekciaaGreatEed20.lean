/- The law FnExactApplyEdit returns true whatever the input, and the input reads behind the call as before. No condition. -/
import Derived.Test.YthnchomedekciaaGreatEed19
set_option maxHeartbeats 40000000
namespace Go.Proofs.YthnchomedekciaaGreat
open Go.Gh
open Nat (reduceEqDiff reduceLeDiff reduceAdd reduceLT)
open Int (reduceNe)
set_option maxRecDepth 20000
set_option linter.unusedSimpArgs false
set_option linter.unusedVariables false
theorem o9 (g : Gram) (t : List Nod) (e : Edi) (hg : smGr g) (ho : okGr g) (hl : t.length ≤ 1048576) (hx : ∀ x ∈ t, x.kids.length ≤ 1048576) (hu1 : e.tree.length ≤ 1048576) (hu2 : ∀ x ∈ e.tree, x.kids.length ≤ 1048576) (H : GH) :
  GCalls Tryz.prog 9 [Gr g, Tr t, Ed e] H (OwnTI (edT g t e) H) := by
 have hvt := w36 g t hg hl hx
 unfold edT
 refine gstart mxd i9 rfl (by simp) ?_; refine X0 ?_
 (refine V0 ?_; with_reducible repeat' first|exact trivial|intro h|refine aO ?_|refine eO ?_|apply jO)
 refine callS.eq (w35 g hg ho) ?_
 rcases (Bool.eq_false_or_eq_true (accG g)).symm with hb | hb
 ·simp only [hb, Bool.false_eq_true, false_and, if_false]
  (refine V0 ?_; with_reducible repeat' first|exact trivial|intro h|refine aO ?_|refine eO ?_|apply jO)
  refine callS.of (o38 t hl hx _) ?_
  rintro v H' ⟨q, rfl, rfl⟩ -
  (refine V0 ?_; with_reducible repeat' first|exact trivial|intro h|refine aO ?_|refine eO ?_|apply jO)
  exact ⟨q, rfl, rfl⟩
 (refine V1 hb ?_; with_reducible repeat' first|exact trivial|intro h|refine aO ?_|refine eO ?_|apply jO)
 refine callS.eq hvt ?_
 rcases (Bool.eq_false_or_eq_true (treeOf g t (startS g))).symm with hv | hv
 ·simp only [hb, hv, Bool.false_eq_true, false_and, and_false, if_false]
  (refine V0 ?_; with_reducible repeat' first|exact trivial|intro h|refine aO ?_|refine eO ?_|apply jO)
  refine callS.of (o38 t hl hx _) ?_
  rintro v H' ⟨q, rfl, rfl⟩ -
  (refine V0 ?_; with_reducible repeat' first|exact trivial|intro h|refine aO ?_|refine eO ?_|apply jO)
  exact ⟨q, rfl, rfl⟩
 ·have hm := tree_mk hv
  (refine V1 hv ?_; with_reducible repeat' first|exact trivial|intro h|refine aO ?_|refine eO ?_|apply jO)
  refine callS.eq (w37 _ _ _) ?_
  by_cases hk : 1 ≤ e.kind ∧ e.kind ≤ 3
  case neg =>
   have hk' := eq_false hk
   simp only [hb, hv, hk, and_false, if_false]
   (refine V1 (jO hk' @decide_false) ?_; with_reducible repeat' first|exact trivial|intro h|refine aO ?_|refine eO ?_|apply jO)
   refine callS.of (o38 t hl hx _) ?_
   rintro v H' ⟨q, rfl, rfl⟩ -
   (refine V0 ?_; with_reducible repeat' first|exact trivial|intro h|refine aO ?_|refine eO ?_|apply jO)
   exact ⟨q, rfl, rfl⟩
  case pos =>
   have hk' := eq_true hk
   simp only [hb, hv, hk, and_self, if_true]
   (refine V1 (jO hk' @decide_true) ?_; with_reducible repeat' first|exact trivial|intro h|refine aO ?_|refine eO ?_|apply jO)
   refine callS.eq (n39 t e.node) ?_
   (refine V0 ?_; with_reducible repeat' first|exact trivial|intro h|refine aO ?_|refine eO ?_|apply jO)
   refine callS.eq (n39 t e.other) ?_
   by_cases h1 : ixId t e.node < 0
   ·have h1' := eq_true h1
    simp only [h1, true_or, if_true]
    (refine V1 (jO h1' @decide_true) ?_; with_reducible repeat' first|exact trivial|intro h|refine aO ?_|refine eO ?_|apply jO)
    refine callS.of (o38 t hl hx _) ?_
    rintro v H' ⟨q, rfl, rfl⟩ -
    (refine V0 ?_; with_reducible repeat' first|exact trivial|intro h|refine aO ?_|refine eO ?_|apply jO)
    exact ⟨q, rfl, rfl⟩
   ·have h1' := eq_false h1
    obtain ⟨i, hi, hil⟩ := ixId_in h1
    have hi0 : ((i : Int) < 0) = False := eq_false (by omega)
    rw [hi] at h1 h1' ⊢
    by_cases h3 : e.kind = 3
    ·have h3' := eq_true h3
     have h32 : (e.kind = 2) = False := eq_false (by omega)
     have h31 : (e.kind = 1) = False := eq_false (by omega)
     by_cases h4 : ixId t e.other < 0
     ·have h4' := eq_true h4
      simp only [h3, h4, true_and, or_true, if_true]
      (refine V1 (jO hi0 (jO h3' (jO h4' (jO @decide_true @decide_false)))) ?_; with_reducible repeat' first|exact trivial|intro h|refine aO ?_|refine eO ?_|apply jO)
      refine callS.of (o38 t hl hx _) ?_
      rintro v H' ⟨q, rfl, rfl⟩ -
      (refine V0 ?_; with_reducible repeat' first|exact trivial|intro h|refine aO ?_|refine eO ?_|apply jO)
      exact ⟨q, rfl, rfl⟩
     ·have h4' := eq_false h4
      obtain ⟨k, hk2, hkl⟩ := ixId_in h4
      have hk0 : ((k : Int) < 0) = False := eq_false (by omega)
      rw [hk2] at h4 h4' ⊢
      simp only [hi0, hk0, h3', h32, false_or, true_and, if_false, if_true]
      (refine V1 (jO hi0 (jO hk0 (jO h3' (jO h32 (jO h31 (jO @decide_true @decide_false)))))) ?_; with_reducible repeat' first|exact trivial|intro h|refine aO ?_|refine eO ?_|apply jO)
      refine callS.of (o42 g t i k hg hm ⟨by omega, by omega⟩ ⟨by omega, by omega⟩ _) ?_
      rintro v H' ⟨q, rfl, rfl⟩ -
      (refine V0 ?_; with_reducible repeat' first|exact trivial|intro h|refine aO ?_|refine eO ?_|apply jO)
      exact ⟨q, rfl, rfl⟩
    ·have h3' := eq_false h3
     simp only [hi0, h3', false_and, or_self, if_false]
     by_cases h5 : e.kind = 2
     ·have h5' := eq_true h5
      have h51 : (e.kind = 1) = False := eq_false (by omega)
      simp only [h5', if_true, Int.toNat_natCast]
      (refine V1 (jO hi0 (jO h3' (jO h5' (jO h51 (jO @decide_true @decide_false))))) ?_; with_reducible repeat' first|exact trivial|intro h|refine aO ?_|refine eO ?_|apply jO)
      refine callS.of (o41 g t i e hg hm hil hu1 hu2 _) ?_
      rintro v H' ⟨q, rfl, rfl⟩ -
      (refine V0 ?_; with_reducible repeat' first|exact trivial|intro h|refine aO ?_|refine eO ?_|apply jO)
      exact ⟨q, rfl, rfl⟩
     ·have h5' := eq_false h5
      have h51 : (e.kind = 1) = True := eq_true (by omega)
      simp only [h5', if_false, Int.toNat_natCast]
      (refine V1 (jO hi0 (jO h3' (jO h5' (jO h51 (jO @decide_true @decide_false))))) ?_; with_reducible repeat' first|exact trivial|intro h|refine aO ?_|refine eO ?_|apply jO)
      refine callS.of (o40 g t i e hg hl hx hil _) ?_
      rintro v H' ⟨q, rfl, rfl⟩ -
      (refine V0 ?_; with_reducible repeat' first|exact trivial|intro h|refine aO ?_|refine eO ?_|apply jO)
      exact ⟨q, rfl, rfl⟩
theorem o13 (g : Gram) (t : List Nod) (e : Edi) (hg : smGr g) (ho : okGr g) (hl : t.length ≤ 1048576) (hx : ∀ x ∈ t, x.kids.length ≤ 1048576) (hu1 : e.tree.length ≤ 1048576) (hu2 : ∀ x ∈ e.tree, x.kids.length ≤ 1048576) (H : GH) :
  GCalls Tryz.prog 13 [Gr g, Tr t, Ed e] H (OwnTI (edT g t e) H) := by
 have hvt := w47 g t hg hl hx
 unfold edT
 refine gstart mxd i13 rfl (by simp) ?_; refine X0 ?_
 (refine V0 ?_; with_reducible repeat' first|exact trivial|intro h|refine aO ?_|refine eO ?_|apply jO)
 refine callS.eq (w46 g hg ho) ?_
 rcases (Bool.eq_false_or_eq_true (accG g)).symm with hb | hb
 ·simp only [hb, Bool.false_eq_true, false_and, if_false]
  (refine V0 ?_; with_reducible repeat' first|exact trivial|intro h|refine aO ?_|refine eO ?_|apply jO)
  refine callS.of (o49 t hl hx _) ?_
  rintro v H' ⟨q, rfl, rfl⟩ -
  (refine V0 ?_; with_reducible repeat' first|exact trivial|intro h|refine aO ?_|refine eO ?_|apply jO)
  exact ⟨q, rfl, rfl⟩
 (refine V1 hb ?_; with_reducible repeat' first|exact trivial|intro h|refine aO ?_|refine eO ?_|apply jO)
 refine callS.eq hvt ?_
 rcases (Bool.eq_false_or_eq_true (treeOf g t (startS g))).symm with hv | hv
 ·simp only [hb, hv, Bool.false_eq_true, false_and, and_false, if_false]
  (refine V0 ?_; with_reducible repeat' first|exact trivial|intro h|refine aO ?_|refine eO ?_|apply jO)
  refine callS.of (o49 t hl hx _) ?_
  rintro v H' ⟨q, rfl, rfl⟩ -
  (refine V0 ?_; with_reducible repeat' first|exact trivial|intro h|refine aO ?_|refine eO ?_|apply jO)
  exact ⟨q, rfl, rfl⟩
 ·have hm := tree_mk hv
  (refine V1 hv ?_; with_reducible repeat' first|exact trivial|intro h|refine aO ?_|refine eO ?_|apply jO)
  refine callS.eq (w48 _ _ _) ?_
  by_cases hk : 1 ≤ e.kind ∧ e.kind ≤ 3
  case neg =>
   have hk' := eq_false hk
   simp only [hb, hv, hk, and_false, if_false]
   (refine V1 (jO hk' @decide_false) ?_; with_reducible repeat' first|exact trivial|intro h|refine aO ?_|refine eO ?_|apply jO)
   refine callS.of (o49 t hl hx _) ?_
   rintro v H' ⟨q, rfl, rfl⟩ -
   (refine V0 ?_; with_reducible repeat' first|exact trivial|intro h|refine aO ?_|refine eO ?_|apply jO)
   exact ⟨q, rfl, rfl⟩
  case pos =>
   have hk' := eq_true hk
   simp only [hb, hv, hk, and_self, if_true]
   (refine V1 (jO hk' @decide_true) ?_; with_reducible repeat' first|exact trivial|intro h|refine aO ?_|refine eO ?_|apply jO)
   refine callS.eq (n50 t e.node) ?_
   (refine V0 ?_; with_reducible repeat' first|exact trivial|intro h|refine aO ?_|refine eO ?_|apply jO)
   refine callS.eq (n50 t e.other) ?_
   by_cases h1 : ixId t e.node < 0
   ·have h1' := eq_true h1
    simp only [h1, true_or, if_true]
    (refine V1 (jO h1' @decide_true) ?_; with_reducible repeat' first|exact trivial|intro h|refine aO ?_|refine eO ?_|apply jO)
    refine callS.of (o49 t hl hx _) ?_
    rintro v H' ⟨q, rfl, rfl⟩ -
    (refine V0 ?_; with_reducible repeat' first|exact trivial|intro h|refine aO ?_|refine eO ?_|apply jO)
    exact ⟨q, rfl, rfl⟩
   ·have h1' := eq_false h1
    obtain ⟨i, hi, hil⟩ := ixId_in h1
    have hi0 : ((i : Int) < 0) = False := eq_false (by omega)
    rw [hi] at h1 h1' ⊢
    by_cases h3 : e.kind = 3
    ·have h3' := eq_true h3
     have h32 : (e.kind = 2) = False := eq_false (by omega)
     have h31 : (e.kind = 1) = False := eq_false (by omega)
     by_cases h4 : ixId t e.other < 0
     ·have h4' := eq_true h4
      simp only [h3, h4, true_and, or_true, if_true]
      (refine V1 (jO hi0 (jO h3' (jO h4' (jO @decide_true @decide_false)))) ?_; with_reducible repeat' first|exact trivial|intro h|refine aO ?_|refine eO ?_|apply jO)
      refine callS.of (o49 t hl hx _) ?_
      rintro v H' ⟨q, rfl, rfl⟩ -
      (refine V0 ?_; with_reducible repeat' first|exact trivial|intro h|refine aO ?_|refine eO ?_|apply jO)
      exact ⟨q, rfl, rfl⟩
     ·have h4' := eq_false h4
      obtain ⟨k, hk2, hkl⟩ := ixId_in h4
      have hk0 : ((k : Int) < 0) = False := eq_false (by omega)
      rw [hk2] at h4 h4' ⊢
      simp only [hi0, hk0, h3', h32, false_or, true_and, if_false, if_true]
      (refine V1 (jO hi0 (jO hk0 (jO h3' (jO h32 (jO h31 (jO @decide_true @decide_false)))))) ?_; with_reducible repeat' first|exact trivial|intro h|refine aO ?_|refine eO ?_|apply jO)
      refine callS.of (o52 g t i k hg hm ⟨by omega, by omega⟩ ⟨by omega, by omega⟩ _) ?_
      rintro v H' ⟨q, rfl, rfl⟩ -
      (refine V0 ?_; with_reducible repeat' first|exact trivial|intro h|refine aO ?_|refine eO ?_|apply jO)
      exact ⟨q, rfl, rfl⟩
    ·have h3' := eq_false h3
     simp only [hi0, h3', false_and, or_self, if_false]
     by_cases h5 : e.kind = 2
     ·have h5' := eq_true h5
      have h51 : (e.kind = 1) = False := eq_false (by omega)
      simp only [h5', if_true, Int.toNat_natCast]
      (refine V1 (jO hi0 (jO h3' (jO h5' (jO h51 (jO @decide_true @decide_false))))) ?_; with_reducible repeat' first|exact trivial|intro h|refine aO ?_|refine eO ?_|apply jO)
      refine callS.of (o51 g t i e hg hm hil hu1 hu2 _) ?_
      rintro v H' ⟨q, rfl, rfl⟩ -
      (refine V0 ?_; with_reducible repeat' first|exact trivial|intro h|refine aO ?_|refine eO ?_|apply jO)
      exact ⟨q, rfl, rfl⟩
     ·have h5' := eq_false h5
      have h51 : (e.kind = 1) = True := eq_true (by omega)
      simp only [h5', if_false, Int.toNat_natCast]
      (refine V1 (jO hi0 (jO h3' (jO h5' (jO h51 (jO @decide_true @decide_false))))) ?_; with_reducible repeat' first|exact trivial|intro h|refine aO ?_|refine eO ?_|apply jO)
      unfold litEd
      rw [getD_lt hil]
      refine callS.of (o49 t hl hx _) ?_
      rintro v H' ⟨q, rfl, rfl⟩ -
      (refine V0 ?_; with_reducible repeat' first|exact trivial|intro h|refine aO ?_|refine eO ?_|apply jO)
      all_goals try (exfalso; omega)
      refine callS.eq (w53 g _ hg) ?_
      generalize fRul g.rules t[i].rule = r at *
      rcases (Bool.eq_false_or_eq_true r.lit).symm with hr | hr
      ·simp only [hr, Bool.false_eq_true, false_and, if_false]
       (refine V1 hr ?_; with_reducible repeat' first|exact trivial|intro h|refine aO ?_|refine eO ?_|apply jO)
       exact ⟨q, rfl, rfl⟩
      ·(refine V1 hr ?_; with_reducible repeat' first|exact trivial|intro h|refine aO ?_|refine eO ?_|apply jO)
       refine callS.eq (w48 _ _ _) ?_
       by_cases hv2 : -1000000 ≤ e.lit ∧ e.lit ≤ 1000000
       ·have hv' := eq_true hv2
        simp only [hr, hv2, and_self, if_true]
        (refine V1 (jO hv' @decide_true) ?_; with_reducible repeat' first|exact trivial|intro h|refine aO ?_|refine eO ?_|apply jO)
        all_goals try (exfalso; omega)
        exact ⟨q, by simp [setLit], by simp only [setLit]; rw [getD_lt hil, List.map_set]⟩
       ·have hv' := eq_false hv2
        simp only [hr, hv2, and_false, if_false]
        (refine V1 (jO hv' @decide_false) ?_; with_reducible repeat' first|exact trivial|intro h|refine aO ?_|refine eO ?_|apply jO)
        exact ⟨q, rfl, rfl⟩
theorem t_ownTI {x : List Nod × Int} {v : GV} {H' : GH} (h : OwnTI x [] v H') : Bor H' v (.tup [Tr x.1, I x.2]) := by
 obtain ⟨r, rfl, rfl⟩ := h
 exact .tup (.cons (bor_Tr hget_new rfl) (.cons .refl .nil))
theorem q9 (g : Gram) (t : List Nod) (e : Edi) (hg : smGr g) (ho : okGr g) (hl : t.length ≤ 1048576) (hx : ∀ x ∈ t, x.kids.length ≤ 1048576) (hu1 : e.tree.length ≤ 1048576) (hu2 : ∀ x ∈ e.tree, x.kids.length ≤ 1048576) :
  Pure Tryz.prog 9 [Gr g, Tr t, Ed e] (· = .tup [Tr (edT g t e).1, I (edT g t e).2]) :=
 Pure.bor ((o9 g t e hg ho hl hx hu1 hu2 []).mono fun v H' h => t_ownTI h)
theorem q13 (g : Gram) (t : List Nod) (e : Edi) (hg : smGr g) (ho : okGr g) (hl : t.length ≤ 1048576) (hx : ∀ x ∈ t, x.kids.length ≤ 1048576) (hu1 : e.tree.length ≤ 1048576) (hu2 : ∀ x ∈ e.tree, x.kids.length ≤ 1048576) :
  Pure Tryz.prog 13 [Gr g, Tr t, Ed e] (· = .tup [Tr (edT g t e).1, I (edT g t e).2]) :=
 Pure.bor ((o13 g t e hg ho hl hx hu1 hu2 []).mono fun v H' h => t_ownTI h)
theorem w8 (e : Edi) (left : Int) (h0 : 0 ≤ left) (h1 : left ≤ 1048576) (hx : ∀ x ∈ e.tree, x.rule.size ≤ maxLen) : Pure Tryz.prog 8 [Ed e, I left] (· = I (szv left (wtS wNd e.tree))) := by
 refine gstart mxd i8 rfl (by simp) ?_; refine X0 ?_
 (refine V0 ?_; with_reducible repeat' first|exact trivial|intro h|refine aO ?_|refine eO ?_|apply jO)
 refine callS.eq (w7 e.tree _ (by omega) (by omega) hx) ?_
 (refine R0 ?_; with_reducible repeat' first|exact trivial|intro h|refine aO ?_|refine eO ?_|apply jO) <;> (congr 2; simp only [szv] at *; omega)
theorem bor_Ed {H : GH} {r n : Nat} {e : Edi} (hr : hget H r = some (6, e.tree.map NdO)) (hn : e.tree.length = n) : Bor H (.agg [I e.kind, I e.node, I e.other, I e.lit, .own r 6 0 n]) (Ed e) :=
 .agg (.cons .refl (.cons .refl (.cons .refl (.cons .refl (.cons (bor_NdO hr hn) .nil)))))
theorem o12 (e : Edi) (hu1 : e.tree.length ≤ 1048576) (hu2 : ∀ x ∈ e.tree, x.kids.length ≤ 1048576) (H : GH) : GCalls Tryz.prog 12 [Ed e] H (fun v H' => ∃ r, v = .agg [I e.kind, I e.node, I e.other, I e.lit, .own r 6 0 e.tree.length] ∧ H' = (r, 6, e.tree.map NdO) :: H) := by
 have h0 : GCalls Tryz.prog 12 [Ed e] H (fun v H' => ∃ r r0 x, r ≠ r0 ∧ v = .agg [I e.kind, I e.node, I e.other, I e.lit, .own r 6 0 e.tree.length] ∧ H' = (r, 6, e.tree.map NdO) :: (r0, 5, x) :: H) := by
  refine gstart mxd i12 rfl (by simp) ?_; refine X0 ?_
  (refine V0 ?_; with_reducible repeat' first|exact trivial|intro h|refine aO ?_|refine eO ?_|apply jO)
  rename_i r0
  refine callS.of (o11 e.tree hu1 hu2 _) ?_
  rintro v H' ⟨q, rfl, rfl⟩ hn
  replace hn := neH_of hn
  (replace hn := hn; simp only [VN] at hn)
  (refine V1 hn ?_; with_reducible repeat' first|exact trivial|intro h|refine aO ?_|refine eO ?_|apply jO)
  exact ⟨q, r0, _, by simp [hn], rfl, rfl⟩
 refine h0.fr ?_
 rintro v H' ⟨r, r0, x, hne, rfl, rfl⟩
 exact ⟨_, _, FR.drop (r := r0) (by rw [hget_old hne, hget_new]), r, rfl, by rw [hdel_old hne, hdel_new]⟩
theorem w12 (e : Edi) (hu1 : e.tree.length ≤ 1048576) (hu2 : ∀ x ∈ e.tree, x.kids.length ≤ 1048576) : Pure Tryz.prog 12 [Ed e] (· = Ed e) :=
 Pure.bor ((o12 e hu1 hu2 []).mono fun v H' ⟨r, h1, h2⟩ => by
  subst h1; subst h2
  exact bor_Ed hget_new rfl)
theorem w16 (x y : Edi) : Pure Tryz.prog 16 [Ed x, Ed y] (· = B (decide (x = y))) := by
 refine gstart mxd i16 rfl (by simp) ?_; refine X0 ?_
 (refine R0 ?_; with_reducible repeat' first|exact trivial|intro h|refine aO ?_|refine eO ?_|apply jO)
 all_goals first
  | (simp [Edi.ext_iff, *]; done)
  | skip
 refine callS.eq (w14 _ _) ?_
 (refine R0 ?_; with_reducible repeat' first|exact trivial|intro h|refine aO ?_|refine eO ?_|apply jO) <;> simp [Edi.ext_iff, *]
theorem w19 (r n : Nat) (k a b c d : Int) (t : List Nod) (H : GH) (hr : hget H r = some (6, t.map NdO)) (hn : t.length = n) (hk : 0 ≤ k) (hb : mkEnd k t < 9223372036854775807) :
  GCalls Tryz.prog 19 [.agg [I a, I b, I c, I d, .own r 6 0 n], I k] H (fun g H' => g = I (mkEnd k t) ∧ H' = hset H r ((mkNods k t).map NdO)) := by
 refine gstart mxd i19 rfl (by simp) ?_; refine X0 ?_
 (refine V0 ?_; with_reducible repeat' first|exact trivial|intro h|refine aO ?_|refine eO ?_|apply jO)
 refine callS.of (w18 r n k t _ hr hn hk hb) ?_
 rintro g H' ⟨rfl, rfl⟩ -
 (refine V0 ?_; with_reducible repeat' first|exact trivial|intro h|refine aO ?_|refine eO ?_|apply jO)
end Go.Proofs.YthnchomedekciaaGreat
