/- The law FnExactApplyEdits returns true whatever the input, and the input reads behind the call as before. No condition. -/
import Derived.Test.YthnchomedekciaaGreatEes16
set_option maxHeartbeats 40000000
namespace Go.Proofs.YthnchomedekciaaGreat
open Go.Gh
open Nat (reduceEqDiff reduceLeDiff reduceAdd reduceLT)
open Int (reduceNe)
set_option maxRecDepth 20000
set_option linter.unusedSimpArgs false
set_option linter.unusedVariables false
theorem o9 (g : Gram) (t : List Nod) (e : Edi) (hg : smGr g) (ho : okGr g) (hl : t.length ≤ 1048576) (hx : ∀ x ∈ t, x.kids.length ≤ 1048576) (hu1 : e.tree.length ≤ 1048576) (hu2 : ∀ x ∈ e.tree, x.kids.length ≤ 1048576) (H : GH) :
  Gc 9 [Gr g, Tr t, Ed e] H (OwnTI (edT g t e) H) := by
 have hvt := w36 g t hg hl hx
 unfold edT
 refine gstart mxd i9 rfl (by simp) ?_; refine X0 ?_
 (refine V0 ?_; with_reducible repeat' first|exact trivial|intro h|refine aO ?_|refine eO ?_|apply jO)
 refine callS.eq (w35 g hg ho) ?_
 rcases (Bool.eq_false_or_eq_true (accG g)).symm with hb | hb
 ·simp only [hb, Bool.false_eq_true, false_and, if_false]
  (refine V0 ?_; with_reducible repeat' first|exact trivial|intro h|refine aO ?_|refine eO ?_|apply jO)
  refine callS.of (o38 t hl hx _) ?_
  rintro v H' ⟨q, rfl, rfl⟩ -
  (refine V0 ?_; with_reducible repeat' first|exact trivial|intro h|refine aO ?_|refine eO ?_|apply jO)
  exact ⟨q, rfl, rfl⟩
 (refine V1 hb ?_; with_reducible repeat' first|exact trivial|intro h|refine aO ?_|refine eO ?_|apply jO)
 refine callS.eq hvt ?_
 rcases (Bool.eq_false_or_eq_true (treeOf g t (startS g))).symm with hv | hv
 ·simp only [hb, hv, Bool.false_eq_true, false_and, and_false, if_false]
  (refine V0 ?_; with_reducible repeat' first|exact trivial|intro h|refine aO ?_|refine eO ?_|apply jO)
  refine callS.of (o38 t hl hx _) ?_
  rintro v H' ⟨q, rfl, rfl⟩ -
  (refine V0 ?_; with_reducible repeat' first|exact trivial|intro h|refine aO ?_|refine eO ?_|apply jO)
  exact ⟨q, rfl, rfl⟩
 ·have hm := tree_mk hv
  (refine V1 hv ?_; with_reducible repeat' first|exact trivial|intro h|refine aO ?_|refine eO ?_|apply jO)
  refine callS.eq (w37 _ _ _) ?_
  by_cases hk : 1 ≤ e.kind ∧ e.kind ≤ 3
  case neg =>
   have hk' := eq_false hk
   simp only [hb, hv, hk, and_false, if_false]
   (refine V1 (jO hk' @decide_false) ?_; with_reducible repeat' first|exact trivial|intro h|refine aO ?_|refine eO ?_|apply jO)
   refine callS.of (o38 t hl hx _) ?_
   rintro v H' ⟨q, rfl, rfl⟩ -
   (refine V0 ?_; with_reducible repeat' first|exact trivial|intro h|refine aO ?_|refine eO ?_|apply jO)
   exact ⟨q, rfl, rfl⟩
  case pos =>
   have hk' := eq_true hk
   simp only [hb, hv, hk, and_self, if_true]
   (refine V1 (jO hk' @decide_true) ?_; with_reducible repeat' first|exact trivial|intro h|refine aO ?_|refine eO ?_|apply jO)
   refine callS.eq (n39 t e.node) ?_
   (refine V0 ?_; with_reducible repeat' first|exact trivial|intro h|refine aO ?_|refine eO ?_|apply jO)
   refine callS.eq (n39 t e.other) ?_
   by_cases h1 : ixId t e.node < 0
   ·have h1' := eq_true h1
    simp only [h1, true_or, if_true]
    (refine V1 (jO h1' @decide_true) ?_; with_reducible repeat' first|exact trivial|intro h|refine aO ?_|refine eO ?_|apply jO)
    refine callS.of (o38 t hl hx _) ?_
    rintro v H' ⟨q, rfl, rfl⟩ -
    (refine V0 ?_; with_reducible repeat' first|exact trivial|intro h|refine aO ?_|refine eO ?_|apply jO)
    exact ⟨q, rfl, rfl⟩
   ·have h1' := eq_false h1
    obtain ⟨i, hi, hil⟩ := ixId_in h1
    have hi0 : ((i : Int) < 0) = False := eq_false (by omega)
    rw [hi] at h1 h1' ⊢
    by_cases h3 : e.kind = 3
    ·have h3' := eq_true h3
     have h32 : (e.kind = 2) = False := eq_false (by omega)
     have h31 : (e.kind = 1) = False := eq_false (by omega)
     by_cases h4 : ixId t e.other < 0
     ·have h4' := eq_true h4
      simp only [h3, h4, true_and, or_true, if_true]
      (refine V1 (jO hi0 (jO h3' (jO h4' (jO @decide_true @decide_false)))) ?_; with_reducible repeat' first|exact trivial|intro h|refine aO ?_|refine eO ?_|apply jO)
      refine callS.of (o38 t hl hx _) ?_
      rintro v H' ⟨q, rfl, rfl⟩ -
      (refine V0 ?_; with_reducible repeat' first|exact trivial|intro h|refine aO ?_|refine eO ?_|apply jO)
      exact ⟨q, rfl, rfl⟩
     ·have h4' := eq_false h4
      obtain ⟨k, hk2, hkl⟩ := ixId_in h4
      have hk0 : ((k : Int) < 0) = False := eq_false (by omega)
      rw [hk2] at h4 h4' ⊢
      simp only [hi0, hk0, h3', h32, false_or, true_and, if_false, if_true]
      (refine V1 (jO hi0 (jO hk0 (jO h3' (jO h32 (jO h31 (jO @decide_true @decide_false)))))) ?_; with_reducible repeat' first|exact trivial|intro h|refine aO ?_|refine eO ?_|apply jO)
      refine callS.of (o42 g t i k hg hm ⟨by omega, by omega⟩ ⟨by omega, by omega⟩ _) ?_
      rintro v H' ⟨q, rfl, rfl⟩ -
      (refine V0 ?_; with_reducible repeat' first|exact trivial|intro h|refine aO ?_|refine eO ?_|apply jO)
      exact ⟨q, rfl, rfl⟩
    ·have h3' := eq_false h3
     simp only [hi0, h3', false_and, or_self, if_false]
     by_cases h5 : e.kind = 2
     ·have h5' := eq_true h5
      have h51 : (e.kind = 1) = False := eq_false (by omega)
      simp only [h5', if_true, Int.toNat_natCast]
      (refine V1 (jO hi0 (jO h3' (jO h5' (jO h51 (jO @decide_true @decide_false))))) ?_; with_reducible repeat' first|exact trivial|intro h|refine aO ?_|refine eO ?_|apply jO)
      refine callS.of (o41 g t i e hg hm hil hu1 hu2 _) ?_
      rintro v H' ⟨q, rfl, rfl⟩ -
      (refine V0 ?_; with_reducible repeat' first|exact trivial|intro h|refine aO ?_|refine eO ?_|apply jO)
      exact ⟨q, rfl, rfl⟩
     ·have h5' := eq_false h5
      have h51 : (e.kind = 1) = True := eq_true (by omega)
      simp only [h5', if_false, Int.toNat_natCast]
      (refine V1 (jO hi0 (jO h3' (jO h5' (jO h51 (jO @decide_true @decide_false))))) ?_; with_reducible repeat' first|exact trivial|intro h|refine aO ?_|refine eO ?_|apply jO)
      refine callS.of (o40 g t i e hg hl hx hil _) ?_
      rintro v H' ⟨q, rfl, rfl⟩ -
      (refine V0 ?_; with_reducible repeat' first|exact trivial|intro h|refine aO ?_|refine eO ?_|apply jO)
      exact ⟨q, rfl, rfl⟩
theorem o13 (g : Gram) (t : List Nod) (e : Edi) (hg : smGr g) (ho : okGr g) (hl : t.length ≤ 1048576) (hx : ∀ x ∈ t, x.kids.length ≤ 1048576) (hu1 : e.tree.length ≤ 1048576) (hu2 : ∀ x ∈ e.tree, x.kids.length ≤ 1048576) (H : GH) :
  Gc 13 [Gr g, Tr t, Ed e] H (OwnTI (edT g t e) H) := by
 have hvt := w47 g t hg hl hx
 unfold edT
 refine gstart mxd i13 rfl (by simp) ?_; refine X0 ?_
 (refine V0 ?_; with_reducible repeat' first|exact trivial|intro h|refine aO ?_|refine eO ?_|apply jO)
 refine callS.eq (w46 g hg ho) ?_
 rcases (Bool.eq_false_or_eq_true (accG g)).symm with hb | hb
 ·simp only [hb, Bool.false_eq_true, false_and, if_false]
  (refine V0 ?_; with_reducible repeat' first|exact trivial|intro h|refine aO ?_|refine eO ?_|apply jO)
  refine callS.of (o49 t hl hx _) ?_
  rintro v H' ⟨q, rfl, rfl⟩ -
  (refine V0 ?_; with_reducible repeat' first|exact trivial|intro h|refine aO ?_|refine eO ?_|apply jO)
  exact ⟨q, rfl, rfl⟩
 (refine V1 hb ?_; with_reducible repeat' first|exact trivial|intro h|refine aO ?_|refine eO ?_|apply jO)
 refine callS.eq hvt ?_
 rcases (Bool.eq_false_or_eq_true (treeOf g t (startS g))).symm with hv | hv
 ·simp only [hb, hv, Bool.false_eq_true, false_and, and_false, if_false]
  (refine V0 ?_; with_reducible repeat' first|exact trivial|intro h|refine aO ?_|refine eO ?_|apply jO)
  refine callS.of (o49 t hl hx _) ?_
  rintro v H' ⟨q, rfl, rfl⟩ -
  (refine V0 ?_; with_reducible repeat' first|exact trivial|intro h|refine aO ?_|refine eO ?_|apply jO)
  exact ⟨q, rfl, rfl⟩
 ·have hm := tree_mk hv
  (refine V1 hv ?_; with_reducible repeat' first|exact trivial|intro h|refine aO ?_|refine eO ?_|apply jO)
  refine callS.eq (w48 _ _ _) ?_
  by_cases hk : 1 ≤ e.kind ∧ e.kind ≤ 3
  case neg =>
   have hk' := eq_false hk
   simp only [hb, hv, hk, and_false, if_false]
   (refine V1 (jO hk' @decide_false) ?_; with_reducible repeat' first|exact trivial|intro h|refine aO ?_|refine eO ?_|apply jO)
   refine callS.of (o49 t hl hx _) ?_
   rintro v H' ⟨q, rfl, rfl⟩ -
   (refine V0 ?_; with_reducible repeat' first|exact trivial|intro h|refine aO ?_|refine eO ?_|apply jO)
   exact ⟨q, rfl, rfl⟩
  case pos =>
   have hk' := eq_true hk
   simp only [hb, hv, hk, and_self, if_true]
   (refine V1 (jO hk' @decide_true) ?_; with_reducible repeat' first|exact trivial|intro h|refine aO ?_|refine eO ?_|apply jO)
   refine callS.eq (n50 t e.node) ?_
   (refine V0 ?_; with_reducible repeat' first|exact trivial|intro h|refine aO ?_|refine eO ?_|apply jO)
   refine callS.eq (n50 t e.other) ?_
   by_cases h1 : ixId t e.node < 0
   ·have h1' := eq_true h1
    simp only [h1, true_or, if_true]
    (refine V1 (jO h1' @decide_true) ?_; with_reducible repeat' first|exact trivial|intro h|refine aO ?_|refine eO ?_|apply jO)
    refine callS.of (o49 t hl hx _) ?_
    rintro v H' ⟨q, rfl, rfl⟩ -
    (refine V0 ?_; with_reducible repeat' first|exact trivial|intro h|refine aO ?_|refine eO ?_|apply jO)
    exact ⟨q, rfl, rfl⟩
   ·have h1' := eq_false h1
    obtain ⟨i, hi, hil⟩ := ixId_in h1
    have hi0 : ((i : Int) < 0) = False := eq_false (by omega)
    rw [hi] at h1 h1' ⊢
    by_cases h3 : e.kind = 3
    ·have h3' := eq_true h3
     have h32 : (e.kind = 2) = False := eq_false (by omega)
     have h31 : (e.kind = 1) = False := eq_false (by omega)
     by_cases h4 : ixId t e.other < 0
     ·have h4' := eq_true h4
      simp only [h3, h4, true_and, or_true, if_true]
      (refine V1 (jO hi0 (jO h3' (jO h4' (jO @decide_true @decide_false)))) ?_; with_reducible repeat' first|exact trivial|intro h|refine aO ?_|refine eO ?_|apply jO)
      refine callS.of (o49 t hl hx _) ?_
      rintro v H' ⟨q, rfl, rfl⟩ -
      (refine V0 ?_; with_reducible repeat' first|exact trivial|intro h|refine aO ?_|refine eO ?_|apply jO)
      exact ⟨q, rfl, rfl⟩
     ·have h4' := eq_false h4
      obtain ⟨k, hk2, hkl⟩ := ixId_in h4
      have hk0 : ((k : Int) < 0) = False := eq_false (by omega)
      rw [hk2] at h4 h4' ⊢
      simp only [hi0, hk0, h3', h32, false_or, true_and, if_false, if_true]
      (refine V1 (jO hi0 (jO hk0 (jO h3' (jO h32 (jO h31 (jO @decide_true @decide_false)))))) ?_; with_reducible repeat' first|exact trivial|intro h|refine aO ?_|refine eO ?_|apply jO)
      refine callS.of (o52 g t i k hg hm ⟨by omega, by omega⟩ ⟨by omega, by omega⟩ _) ?_
      rintro v H' ⟨q, rfl, rfl⟩ -
      (refine V0 ?_; with_reducible repeat' first|exact trivial|intro h|refine aO ?_|refine eO ?_|apply jO)
      exact ⟨q, rfl, rfl⟩
    ·have h3' := eq_false h3
     simp only [hi0, h3', false_and, or_self, if_false]
     by_cases h5 : e.kind = 2
     ·have h5' := eq_true h5
      have h51 : (e.kind = 1) = False := eq_false (by omega)
      simp only [h5', if_true, Int.toNat_natCast]
      (refine V1 (jO hi0 (jO h3' (jO h5' (jO h51 (jO @decide_true @decide_false))))) ?_; with_reducible repeat' first|exact trivial|intro h|refine aO ?_|refine eO ?_|apply jO)
      refine callS.of (o51 g t i e hg hm hil hu1 hu2 _) ?_
      rintro v H' ⟨q, rfl, rfl⟩ -
      (refine V0 ?_; with_reducible repeat' first|exact trivial|intro h|refine aO ?_|refine eO ?_|apply jO)
      exact ⟨q, rfl, rfl⟩
     ·have h5' := eq_false h5
      have h51 : (e.kind = 1) = True := eq_true (by omega)
      simp only [h5', if_false, Int.toNat_natCast]
      (refine V1 (jO hi0 (jO h3' (jO h5' (jO h51 (jO @decide_true @decide_false))))) ?_; with_reducible repeat' first|exact trivial|intro h|refine aO ?_|refine eO ?_|apply jO)
      unfold litEd
      rw [getD_lt hil]
      refine callS.of (o49 t hl hx _) ?_
      rintro v H' ⟨q, rfl, rfl⟩ -
      (refine V0 ?_; with_reducible repeat' first|exact trivial|intro h|refine aO ?_|refine eO ?_|apply jO)
      all_goals try (exfalso; omega)
      refine callS.eq (w53 g _ hg) ?_
      generalize fRul g.rules t[i].rule = r at *
      rcases (Bool.eq_false_or_eq_true r.lit).symm with hr | hr
      ·simp only [hr, Bool.false_eq_true, false_and, if_false]
       (refine V1 hr ?_; with_reducible repeat' first|exact trivial|intro h|refine aO ?_|refine eO ?_|apply jO)
       exact ⟨q, rfl, rfl⟩
      ·(refine V1 hr ?_; with_reducible repeat' first|exact trivial|intro h|refine aO ?_|refine eO ?_|apply jO)
       refine callS.eq (w48 _ _ _) ?_
       by_cases hv2 : -1000000 ≤ e.lit ∧ e.lit ≤ 1000000
       ·have hv' := eq_true hv2
        simp only [hr, hv2, and_self, if_true]
        (refine V1 (jO hv' @decide_true) ?_; with_reducible repeat' first|exact trivial|intro h|refine aO ?_|refine eO ?_|apply jO)
        all_goals try (exfalso; omega)
        exact ⟨q, by simp [setLit], by simp only [setLit]; rw [getD_lt hil, List.map_set]⟩
       ·have hv' := eq_false hv2
        simp only [hr, hv2, and_false, if_false]
        (refine V1 (jO hv' @decide_false) ?_; with_reducible repeat' first|exact trivial|intro h|refine aO ?_|refine eO ?_|apply jO)
        exact ⟨q, rfl, rfl⟩
theorem w8 (e : Edi) (left : Int) (h0 : 0 ≤ left) (h1 : left ≤ 1048576) (hx : ∀ x ∈ e.tree, x.rule.size ≤ maxLen) : Pu 8 [Ed e, I left] (· = I (szv left (wtS wNd e.tree))) := by
 refine gstart mxd i8 rfl (by simp) ?_; refine X0 ?_
 (refine V0 ?_; with_reducible repeat' first|exact trivial|intro h|refine aO ?_|refine eO ?_|apply jO)
 refine callS.eq (w7 e.tree _ (by omega) (by omega) hx) ?_
 (refine R0 ?_; with_reducible repeat' first|exact trivial|intro h|refine aO ?_|refine eO ?_|apply jO) <;> (congr 2; simp only [szv] at *; omega)
theorem o12 (e : Edi) (hu1 : e.tree.length ≤ 1048576) (hu2 : ∀ x ∈ e.tree, x.kids.length ≤ 1048576) (H : GH) : Gc 12 [Ed e] H (fun v H' => ∃ r, v = .agg [I e.kind, I e.node, I e.other, I e.lit, .own r 6 0 e.tree.length] ∧ H' = (r, 6, e.tree.map NdO) :: H) := by
 have h0 : Gc 12 [Ed e] H (fun v H' => ∃ r r0 x, r ≠ r0 ∧ v = .agg [I e.kind, I e.node, I e.other, I e.lit, .own r 6 0 e.tree.length] ∧ H' = (r, 6, e.tree.map NdO) :: (r0, 5, x) :: H) := by
  refine gstart mxd i12 rfl (by simp) ?_; refine X0 ?_
  (refine V0 ?_; with_reducible repeat' first|exact trivial|intro h|refine aO ?_|refine eO ?_|apply jO)
  rename_i r0
  refine callS.of (o11 e.tree hu1 hu2 _) ?_
  rintro v H' ⟨q, rfl, rfl⟩ hn
  replace hn := neH_of hn
  (replace hn := hn; simp only [VN] at hn)
  (refine V1 hn ?_; with_reducible repeat' first|exact trivial|intro h|refine aO ?_|refine eO ?_|apply jO)
  exact ⟨q, r0, _, by simp [hn], rfl, rfl⟩
 refine h0.fr ?_
 rintro v H' ⟨r, r0, x, hne, rfl, rfl⟩
 exact ⟨_, _, FR.drop (r := r0) (by rw [hget_old hne, hget_new]), r, rfl, by rw [hdel_old hne, hdel_new]⟩
theorem w16 (x y : Edi) : Pu 16 [Ed x, Ed y] (· = B (decide (x = y))) := by
 refine gstart mxd i16 rfl (by simp) ?_; refine X0 ?_
 (refine R0 ?_; with_reducible repeat' first|exact trivial|intro h|refine aO ?_|refine eO ?_|apply jO)
 all_goals first
  | (simp [Edi.ext_iff, *]; done)
  | skip
 refine callS.eq (w14 _ _) ?_
 (refine R0 ?_; with_reducible repeat' first|exact trivial|intro h|refine aO ?_|refine eO ?_|apply jO) <;> simp [Edi.ext_iff, *]
theorem p13 (g : Gram) (t : List Nod) (e : Edi) (hg : smGr g) (ho : okGr g) (hl : t.length ≤ 1048576) (hx : ∀ x ∈ t, x.kids.length ≤ 1048576) (hu1 : e.tree.length ≤ 1048576) (hu2 : ∀ x ∈ e.tree, x.kids.length ≤ 1048576) (H : GH) :
  Gc 13 [Gr g, Tr t, Ed e] H (fun v H' => ∃ H1, (∃ r, v = .tup [.agg [.own r 6 0 (edT g t e).1.length], I (edT g t e).2] ∧ H1 = [(r, 6, (edT g t e).1.map NdO)]) ∧ H' = H1 ++ H) :=
 (o13 g t e hg ho hl hx hu1 hu2 H).mono fun v H' ⟨r, h1, h2⟩ => ⟨_, ⟨r, h1, rfl⟩, h2⟩
theorem p9 (g : Gram) (t : List Nod) (e : Edi) (hg : smGr g) (ho : okGr g) (hl : t.length ≤ 1048576) (hx : ∀ x ∈ t, x.kids.length ≤ 1048576) (hu1 : e.tree.length ≤ 1048576) (hu2 : ∀ x ∈ e.tree, x.kids.length ≤ 1048576) (H : GH) :
  Gc 9 [Gr g, Tr t, Ed e] H (fun v H' => ∃ H1, (∃ r, v = .tup [.agg [.own r 6 0 (edT g t e).1.length], I (edT g t e).2] ∧ H1 = [(r, 6, (edT g t e).1.map NdO)]) ∧ H' = H1 ++ H) :=
 (o9 g t e hg ho hl hx hu1 hu2 H).mono fun v H' ⟨r, h1, h2⟩ => ⟨_, ⟨r, h1, rfl⟩, h2⟩
theorem o22 (g : Gram) (t : List Nod) (L : List Edi) (hg : smGr g) (ho : okGr g) (hl : t.length ≤ 1048576) (hx : ∀ x ∈ t, x.kids.length ≤ 1048576) (hL : L.length ≤ 1048576) (hu : ∀ e ∈ L, e.tree.length ≤ 1048576 ∧ ∀ x ∈ e.tree, x.kids.length ≤ 1048576) (H : GH) :
  Gc 22 [Gr g, Tr t, EdS L] H (fun v H' => ∃ H1, (∃ q c, c ≠ q ∧ v = .tup [.agg [.own q 6 0 (edTr g t L L.length).length], .own c 1 0 L.length] ∧ H1 = [(c, 1, (edC g t L).map I), (q, 6, (edTr g t L L.length).map NdO)]) ∧ H' = H1 ++ H) := by
 have h0 : Gc 22 [Gr g, Tr t, EdS L] H (fun v H' => ∃ q c r0 x, (q ≠ c ∧ q ≠ r0 ∧ r0 ≠ c) ∧ v = .tup [.agg [.own q 6 0 (edTr g t L L.length).length], .own c 1 0 L.length] ∧ H' = (c, 1, (edC g t L).map I) :: (r0, 1, x) :: (q, 6, (edTr g t L L.length).map NdO) :: H) := by
  have hsm := edTr_sm (g := g) (t := t) (L := L) ⟨hl, hx⟩
  have hCl := edC_len g t L
  have hCg : ∀ k, ∀ h : k < L.length, ∀ h' : k < (edC g t L).length, (edC g t L)[k] = (edT g (edTr g t L k) L[k]).2 := fun k h h' => edC_get h h'
  have hTs : ∀ k, ∀ h : k < L.length, edTr g t L (k + 1) = (edT g (edTr g t L k) L[k]).1 := fun k h => edTr_s h
  have hT0 : edTr g t L 0 = t := rfl
  generalize edTr g t L = TR at *
  generalize edC g t L = C at *
  refine gstart mxd i22 rfl (by simp) ?_; refine X0 ?_
  (refine V0 ?_; with_reducible repeat' first|exact trivial|intro h|refine aO ?_|refine eO ?_|apply jO)
  refine callS.of (o38 t hl hx _) ?_
  rintro v H' ⟨q0, rfl, rfl⟩ hn
  replace hn := neH_of hn
  (replace hn := hn; simp only [VN] at hn)
  (refine V1 hn ?_; with_reducible repeat' first|exact trivial|intro h|refine aO ?_|refine eO ?_|apply jO)
  rename_i r0 _ c0
  refine wloopN mxd (ι := { x : (Nat × Nat) × Nat // x.2 ≤ L.length }) (fun x => [(2, EdS L), (3, .rop 2 (Gr g)), (4, .rop 1 (Tr t)), (6, .raw 1), (8, .ptr r0 1 0 0), (9, .own x.1.1.2 1 0 x.1.2), (10, I x.1.2)]) (fun x => (x.1.1.2, 1, (C.take x.1.2).map I) :: (r0, 1, [.agg [.own x.1.1.1 6 0 (TR x.1.2).length]]) :: (x.1.1.1, 6, (TR x.1.2).map NdO) :: H) (fun x => L.length - x.1.2) ⟨((q0, c0), 0), by simp⟩ (by simp [E2]) (by simp [hT0]) ?_
  rintro ⟨⟨⟨q, c⟩, k⟩, hk⟩ hn
  dsimp only at hk hn ⊢
  replace hn := neH_of hn
  (replace hn := hn; simp only [VN] at hn)
  have hcl : (C.take k).length = k := by simp; omega
  rcases Nat.lt_or_ge k L.length with hlt | hge
  ·have hs := hsm k
   have hue := hu _ (List.getElem_mem hlt)
   have hc := p9 g (TR k) L[k] hg ho hs.1 hs.2 hue.1 hue.2
   rw [← hTs k hlt, ← hCg k hlt (by omega)] at hc
   clear hTs hCg
   (refine V1 hn ?_; with_reducible repeat' first|exact trivial|intro h|refine aO ?_|refine eO ?_|apply jO)
   all_goals try (exfalso; omega)
   refine callA.lend hc (.cons .refl (.cons (bor_Tr (by simp [hget_c, hn]) rfl) (.cons .refl .nil))) (by rintro v H1 ⟨r, rfl, rfl⟩; simp [noD, noDH, noDL_eq]) ?_
   rintro v H1 ⟨q2, rfl, rfl⟩ hn2
   simp only [List.cons_append, List.nil_append] at hn2 ⊢
   replace hn2 := neH_of hn2
   (replace hn2 := hn2; simp only [VN] at hn2)
   (refine V1 (jO hn2 (jO @List.length_append.{0} (jO @List.length_singleton.{0} (jO @List.length_map.{0,0} (jO @List.length_take.{0} @maxLv))))) ?_; with_reducible repeat' first|exact trivial|intro h|refine aO ?_|refine eO ?_|apply jO)
   all_goals try (exfalso; omega)
   rename_i r3 _ r4
   have e := takeApp I C k (by omega)
   refine nxF ⟨((q2, r4), k + 1), by omega⟩ (by simp; omega) (FE.perm (H := [_, _, _, _, _]) (L := [(r4, _), (r0, _), (q2, _)]) (by repeat' (first | exact trivial | (refine And.intro (by simp only [hget_c, *, if_true, if_false]; try rfl) (And.intro (by simp [names_cons, names_nil, *]) ?_))))) (by simp [E2]) ?_
   rfl
  ·obtain rfl : k = L.length := by omega
   rw [List.take_of_length_le (by omega)]
   (refine V1 hn ?_; with_reducible repeat' first|exact trivial|intro h|refine aO ?_|refine eO ?_|apply jO)
   all_goals try (exfalso; omega)
   exact ⟨q, c, r0, _, ⟨by simp [hn], by simp [hn], by simp [hn]⟩, rfl, rfl⟩
 refine h0.fr ?_
 rintro v H' ⟨q, c, r0, x, ⟨h1, h2, h3⟩, rfl, rfl⟩
 exact ⟨_, _, FR.drop (r := r0) (by rw [hget_old (Ne.symm h3), hget_new]), _, ⟨q, c, Ne.symm h1, rfl, rfl⟩, by rw [hdel_old (Ne.symm h3), hdel_new]; rfl⟩
theorem o24 (g : Gram) (t : List Nod) (L : List Edi) (hg : smGr g) (ho : okGr g) (hl : t.length ≤ 1048576) (hx : ∀ x ∈ t, x.kids.length ≤ 1048576) (hL : L.length ≤ 1048576) (hu : ∀ e ∈ L, e.tree.length ≤ 1048576 ∧ ∀ x ∈ e.tree, x.kids.length ≤ 1048576) (H : GH) :
  Gc 24 [Gr g, Tr t, EdS L] H (fun v H' => ∃ H1, (∃ q c, c ≠ q ∧ v = .tup [.agg [.own q 6 0 (edTr g t L L.length).length], .own c 1 0 L.length] ∧ H1 = [(c, 1, (edC g t L).map I), (q, 6, (edTr g t L L.length).map NdO)]) ∧ H' = H1 ++ H) := by
 have h0 : Gc 24 [Gr g, Tr t, EdS L] H (fun v H' => ∃ q c r0 x, (q ≠ c ∧ q ≠ r0 ∧ r0 ≠ c) ∧ v = .tup [.agg [.own q 6 0 (edTr g t L L.length).length], .own c 1 0 L.length] ∧ H' = (r0, 1, x) :: (c, 1, (edC g t L).map I) :: (q, 6, (edTr g t L L.length).map NdO) :: H) := by
  have hsm := edTr_sm (g := g) (t := t) (L := L) ⟨hl, hx⟩
  have hCl := edC_len g t L
  have hCg : ∀ k, ∀ h : k < L.length, ∀ h' : k < (edC g t L).length, (edC g t L)[k] = (edT g (edTr g t L k) L[k]).2 := fun k h h' => edC_get h h'
  have hTs : ∀ k, ∀ h : k < L.length, edTr g t L (k + 1) = (edT g (edTr g t L k) L[k]).1 := fun k h => edTr_s h
  have hT0 : edTr g t L 0 = t := rfl
  generalize edTr g t L = TR at *
  generalize edC g t L = C at *
  refine gstart mxd i24 rfl (by simp) ?_; refine X0 ?_
  (refine V0 ?_; with_reducible repeat' first|exact trivial|intro h|refine aO ?_|refine eO ?_|apply jO)
  refine callS.of (o49 t hl hx _) ?_
  rintro v H' ⟨q0, rfl, rfl⟩ hn
  replace hn := neH_of hn
  (replace hn := hn; simp only [VN] at hn)
  (refine V1 hn ?_; with_reducible repeat' first|exact trivial|intro h|refine aO ?_|refine eO ?_|apply jO)
  rename_i c0 _ r0
  refine wloopN mxd (ι := { x : (Nat × Nat) × Nat // x.2 ≤ L.length }) (fun x => [(3, .rop 2 (Gr g)), (4, .rop 1 (Tr t)), (6, .raw 1), (8, .ptr r0 1 0 0), (9, .own x.1.1.2 1 0 x.1.2), (17, EdS L), (18, I L.length), (19, I x.1.2)]) (fun x => (r0, 1, [.agg [.own x.1.1.1 6 0 (TR x.1.2).length]]) :: (x.1.1.2, 1, (C.take x.1.2).map I) :: (x.1.1.1, 6, (TR x.1.2).map NdO) :: H) (fun x => L.length - x.1.2) ⟨((q0, c0), 0), by simp⟩ (by simp [E2]) (by simp [hT0]) ?_
  rintro ⟨⟨⟨q, c⟩, k⟩, hk⟩ hn
  dsimp only at hk hn ⊢
  replace hn := neH_of hn
  (replace hn := hn; simp only [VN] at hn)
  have hcl : (C.take k).length = k := by simp; omega
  rcases Nat.lt_or_ge k L.length with hlt | hge
  ·have hs := hsm k
   have hue := hu _ (List.getElem_mem hlt)
   have hc := p13 g (TR k) L[k] hg ho hs.1 hs.2 hue.1 hue.2
   rw [← hTs k hlt, ← hCg k hlt (by omega)] at hc
   clear hTs hCg
   (refine V1 hn ?_; with_reducible repeat' first|exact trivial|intro h|refine aO ?_|refine eO ?_|apply jO)
   all_goals try (exfalso; omega)
   refine callS.lend hc (.cons .refl (.cons (bor_Tr (by simp [hget_c, hn]) rfl) (.cons .refl .nil))) (by rintro v H1 ⟨r, rfl, rfl⟩; simp [noD, noDH, noDL_eq]) ?_
   rintro v H1 ⟨q2, rfl, rfl⟩ hn2
   simp only [List.cons_append, List.nil_append] at hn2 ⊢
   replace hn2 := neH_of hn2
   (replace hn2 := hn2; simp only [VN] at hn2)
   (refine V1 (jO hn2 (jO @List.length_append.{0} (jO @List.length_singleton.{0} (jO @List.length_map.{0,0} (jO @List.length_take.{0} @maxLv))))) ?_; with_reducible repeat' first|exact trivial|intro h|refine aO ?_|refine eO ?_|apply jO)
   all_goals try (exfalso; omega)
   rename_i r3 _ r4
   have e := takeApp I C k (by omega)
   refine nxF ⟨((q2, r4), k + 1), by omega⟩ (by simp; omega) (FE.perm (H := [_, _, _, _, _]) (L := [(r0, _), (r4, _), (q2, _)]) (by repeat' (first | exact trivial | (refine And.intro (by simp only [hget_c, *, if_true, if_false]; try rfl) (And.intro (by simp [names_cons, names_nil, *]) ?_))))) (by simp [E2]) ?_
   rfl
  ·obtain rfl : k = L.length := by omega
   rw [List.take_of_length_le (by omega)]
   (refine V1 hn ?_; with_reducible repeat' first|exact trivial|intro h|refine aO ?_|refine eO ?_|apply jO)
   all_goals try (exfalso; omega)
   exact ⟨q, c, r0, _, ⟨by simp [hn], by simp [hn], by simp [hn]⟩, rfl, rfl⟩
 refine h0.fr ?_
 rintro v H' ⟨q, c, r0, x, ⟨h1, h2, h3⟩, rfl, rfl⟩
 exact ⟨_, _, FR.drop (r := r0) hget_new, _, ⟨q, c, Ne.symm h1, rfl, rfl⟩, by rw [hdel_new]; rfl⟩
theorem t_edits {s : List Nod} {C : List Int} {n m : Nat} {v : GV} {H' : GH} (hn : s.length = n) (hm : C.length = m) (h : ∃ H1 : GH, (∃ q c, c ≠ q ∧ v = .tup [.agg [.own q 6 0 n], .own c 1 0 m] ∧ H1 = [(c, 1, C.map I), (q, 6, s.map NdO)]) ∧ H' = H1 ++ []) : Bor H' v (.tup [Tr s, IS C]) := by
 obtain ⟨H1, ⟨q, c, hne, rfl, rfl⟩, rfl⟩ := h
 exact .tup (.cons (bor_Tr (by simp [hget, hne]) hn) (.cons (bor_IS hget_new hm) .nil))
theorem q22 (g : Gram) (t : List Nod) (L : List Edi) (hg : smGr g) (ho : okGr g) (hl : t.length ≤ 1048576) (hx : ∀ x ∈ t, x.kids.length ≤ 1048576) (hL : L.length ≤ 1048576) (hu : ∀ e ∈ L, e.tree.length ≤ 1048576 ∧ ∀ x ∈ e.tree, x.kids.length ≤ 1048576) :
  Pu 22 [Gr g, Tr t, EdS L] (· = .tup [Tr (edTr g t L L.length), IS (edC g t L)]) :=
 Pure.bor ((o22 g t L hg ho hl hx hL hu []).mono fun v H' h => t_edits rfl (edC_len g t L) h)
theorem q24 (g : Gram) (t : List Nod) (L : List Edi) (hg : smGr g) (ho : okGr g) (hl : t.length ≤ 1048576) (hx : ∀ x ∈ t, x.kids.length ≤ 1048576) (hL : L.length ≤ 1048576) (hu : ∀ e ∈ L, e.tree.length ≤ 1048576 ∧ ∀ x ∈ e.tree, x.kids.length ≤ 1048576) :
  Pu 24 [Gr g, Tr t, EdS L] (· = .tup [Tr (edTr g t L L.length), IS (edC g t L)]) :=
 Pure.bor ((o24 g t L hg ho hl hx hL hu []).mono fun v H' h => t_edits rfl (edC_len g t L) h)
theorem w21 (xs : List Edi) (left : Int) (h0 : 0 ≤ left) (h1 : left ≤ 1048576) (hx : ∀ e ∈ xs, ∀ x ∈ e.tree, x.rule.size ≤ maxLen) : Pu 21 [EdS xs, I left] (· = I (szv left (wtS wEd xs))) :=
 szS mxd wEd i21 (fun _ => rfl) (fun _ => rfl) xs left h0 h1 fun e hm l a b => w8 e l a b (hx e hm)
theorem o23 (xs : List Edi) (hl : xs.length ≤ 1048576) (hu : ∀ e ∈ xs, e.tree.length ≤ 1048576 ∧ ∀ x ∈ e.tree, x.kids.length ≤ 1048576) (H : GH) : Gc 23 [EdS xs] H (fun g H' => ∃ r, g = .own r 5 0 xs.length ∧ H' = (r, 5, xs.map EdO) :: H) :=
 toSo1 mxd i23 (fun _ => rfl) (fun _ => rfl) 4 6 (fun e => e.tree.map NdO) (fun e r => [I e.kind, I e.node, I e.other, I e.lit, .own r 6 0 e.tree.length]) (fun e => [I e.kind, I e.node, I e.other, I e.lit, .osl 6 (e.tree.map NdO)]) (fun _ _ => rfl) (fun _ _ => by simp) (fun _ _ => rfl) xs hl (by decide) (fun e hm H => o12 e (hu e hm).1 (hu e hm).2 H) H
theorem w23 (xs : List Edi) (hl : xs.length ≤ 1048576) (hu : ∀ e ∈ xs, e.tree.length ≤ 1048576 ∧ ∀ x ∈ e.tree, x.kids.length ≤ 1048576) : Pu 23 [EdS xs] (· = EdS xs) :=
 Pure.bor ((o23 xs hl hu []).mono fun g H' ⟨r, h1, h2⟩ => by
  subst h1; subst h2
  exact bor_EdS hget_new rfl)
theorem w26 (xs ys : List Edi) : Pu 26 [EdS xs, EdS ys] (· = B (decide (xs = ys))) :=
 eqS mxd i26 (fun _ => rfl) (fun _ => rfl) xs ys fun x _ y _ => w16 x y
theorem w27 (r n : Nat) (k : Int) (es : List Edi) (H : GH) (hr : hget H r = some (5, es.map EdO)) (hn : es.length = n) (hk : 0 ≤ k) (hb : k + smw wMk es < 9223372036854775807) :
  Gc 27 [.own r 5 0 n, I k] H (fun g H' => g = I (k + smw wMk es) ∧ H' = hset H r ((smk wMk mkEd es k).map EdO)) := by
 refine gstart mxd i27 rfl (by simp) ?_; refine X0 ?_
 refine wloopF mxd (ι := { i : Nat // i ≤ n }) (fun i => [(0, .own r 5 0 n), (1, I (k + smw wMk (es.take i.1))), (5, I i.1)]) (fun i => hset H r ((smk wMk mkEd (es.take i.1) k ++ es.drop i.1).map EdO)) (fun i => n - i.1) ⟨0, by omega⟩ FE.refl (by simp [E2, smw]) (by simp [smk]; rw [hset_self hr]) ?_
 rintro ⟨i, hi⟩ hnd
 dsimp only at hnd ⊢
 rcases Nat.lt_or_ge i n with h | h
 ·have ht : i < es.length := by omega
  have hml : (smk wMk mkEd (es.take i) k ++ es.drop i).length = es.length := smid_len wMk mkEd
  have hmid : i < (smk wMk mkEd (es.take i) k ++ es.drop i).length := by rw [hml]; exact ht
  have e1 : smw wMk (es.take (i + 1)) = smw wMk (es.take i) + wMk es[i] := smw_step wMk ht
  have e2 := smw_take wMk es (i + 1)
  have e3 := smw_len wMk (fun x => by unfold wMk; omega) es
  have e4 : 4 ≤ wMk es[i] := by unfold wMk; omega
  have e5 := wMk_end es[i] (k + smw wMk (es.take i))
  refine GW.opn (r := r) (i := i) (j := 4) (hget_set hr) (by rw [List.getElem?_map, List.getElem?_eq_getElem hmid, smid_get _ _ ht]; rfl) rfl fun r1 hn1 => ?_
  have hne : r1 ≠ r := ne_of_new hn1 (hget_set hr)
  rw [hset_set]
  refine gwp_ok mxd ?_
  ((try refine qI ?_); (repeat ((first | with_reducible refine qU ?_ | simp only [brGen]); try simp (maxSteps := 9^7) only [↓ S2, S2, vIte, ↓reduceIte, reduceNe, reduceEqDiff, reduceCtorEq, reduceLeDiff, reduceAdd, reduceLT, hget_old hne, hset_old hne, hget_set hr, hset_set, List.getElem_set_self, List.set_set, List.length_set])); (try simp +contextual (disch := omega) only [Z2, hget_old hne, hset_old hne, hget_set hr, hset_set, List.getElem_set_self, List.set_set, List.length_set]); (with_reducible repeat' (first | intro h | refine And.intro (by omega) ?_ | refine exP (by omega) ?_ | apply And.intro)))
  all_goals try (exfalso; omega)
  refine callS.of (w59 r1 _ _ es[i].tree _ hget_new (by simp) (by omega) (by rw [e5]; omega)) ?_
  rintro g H' ⟨rfl, rfl⟩ -
  rw [hset_new, e5]
  ((try refine qI ?_); (repeat ((first | with_reducible refine qU ?_ | simp only [brGen]); try simp (maxSteps := 9^7) only [↓ S2, S2, vIte, ↓reduceIte, reduceNe, reduceEqDiff, reduceCtorEq, reduceLeDiff, reduceAdd, reduceLT, hget_old hne, hset_old hne, hget_set hr, hset_set, List.getElem_set_self, List.set_set, List.length_set])); (try simp +contextual (disch := omega) only [Z2, hget_old hne, hset_old hne, hget_set hr, hset_set, List.getElem_set_self, List.set_set, List.length_set]); (with_reducible repeat' (first | intro h | refine And.intro (by omega) ?_ | refine exP (by omega) ?_ | apply And.intro)))
  all_goals try (exfalso; omega)
  refine nxF ⟨i + 1, by omega⟩ (by simp; omega) (FE.close3 hr hne (j := 4) (by simpa using hmid) rfl (by simp [mkNods_len])) (by simp [E2]; omega) ?_
  show hset H r ((List.map EdO _).set i (EdO (mkEd es[i] (k + smw wMk (es.take i))))) = _
  rw [← List.map_set, smid_set wMk mkEd ht]
 ·have : i = n := by omega
  subst this
  refine gwp_ok mxd ?_
  (refine R0 ?_; with_reducible repeat' first|exact trivial|intro h|refine aO ?_|refine eO ?_|apply jO)
  ·rw [List.take_of_length_le (by omega)]
  ·rw [List.take_of_length_le (by omega), List.drop_of_length_le (by omega), List.append_nil]
end Go.Proofs.YthnchomedekciaaGreat
