/- The law FnExactApplyEdits returns true whatever the input, and the input reads behind the call as before. No condition. -/
import Derived.Test.YthnchomedekciaaGreatEes15
set_option maxHeartbeats 40000000
namespace Go.Proofs.YthnchomedekciaaGreat
open Go.Gh
open Nat (reduceEqDiff reduceLeDiff reduceAdd reduceLT)
open Int (reduceNe)
set_option maxRecDepth 20000
set_option linter.unusedSimpArgs false
set_option linter.unusedVariables false
theorem q83 (t : List Nod) (i : Int) (hl : t.length ≤ 1048576) (hx : ∀ x ∈ t, x.kids.length ≤ 1048576) : Pu 83 [Tr t, I i] (· = Tr (subT t i)) :=
 Pure.bor ((o83 t i hl hx []).mono fun g H' ⟨r, h1, h2⟩ => by
  subst h1; subst h2
  exact bor_Tr hget_new rfl)
theorem q95 (t : List Nod) (i : Int) (hl : t.length ≤ 1048576) (hx : ∀ x ∈ t, x.kids.length ≤ 1048576) : Pu 95 [Tr t, I i] (· = Tr (subT t i)) :=
 Pure.bor ((o95 t i hl hx []).mono fun g H' ⟨r, h1, h2⟩ => by
  subst h1; subst h2
  exact bor_Tr hget_new rfl)
theorem n39 (t : List Nod) (id : Int) : Pu 39 [Tr t, I id] (· = I (ixId t id)) := w39 t id
theorem n50 (t : List Nod) (id : Int) : Pu 50 [Tr t, I id] (· = I (ixId t id)) := w50 t id
def OwnTI (x : List Nod × Int) (H : GH) (v : GV) (H' : GH) : Prop := ∃ r, v = .tup [.agg [.own r 6 0 x.1.length], I x.2] ∧ H' = (r, 6, x.1.map NdO) :: H
theorem o40 (g : Gram) (t : List Nod) (i : Nat) (e : Edi) (hg : smGr g) (hl : t.length ≤ 1048576) (hx : ∀ x ∈ t, x.kids.length ≤ 1048576) (hi : i < t.length) (H : GH) :
  Gc 40 [Gr g, Tr t, I i, Ed e] H (OwnTI (litEd g t i e.lit) H) := by
 unfold litEd
 rw [getD_lt hi]
 refine gstart mxd i40 rfl (by simp) ?_; refine X0 ?_
 (refine V0 ?_; with_reducible repeat' first|exact trivial|intro h|refine aO ?_|refine eO ?_|apply jO)
 all_goals try (exfalso; omega)
 refine callS.eq (w77 g _ hg) ?_
 generalize fRul g.rules t[i].rule = r at *
 (refine V0 ?_; with_reducible repeat' first|exact trivial|intro h|refine aO ?_|refine eO ?_|apply jO)
 refine callS.of (o38 t hl hx _) ?_
 rintro v H' ⟨q, rfl, rfl⟩ -
 rcases (Bool.eq_false_or_eq_true r.lit).symm with hr | hr
 ·simp only [hr, Bool.false_eq_true, false_and, if_false]
  (refine V1 hr ?_; with_reducible repeat' first|exact trivial|intro h|refine aO ?_|refine eO ?_|apply jO)
  exact ⟨q, rfl, rfl⟩
 ·by_cases hv : -1000000 ≤ e.lit ∧ e.lit ≤ 1000000
  ·have hk : okV e.lit 1 = true := by rw [okV1]; exact decide_eq_true hv
   simp only [hr, hv, and_self, if_true]
   (refine V1 hr ?_; with_reducible repeat' first|exact trivial|intro h|refine aO ?_|refine eO ?_|apply jO)
   refine callS.eq (w78 _ _) ?_
   rw [hk]
   (refine V0 ?_; with_reducible repeat' first|exact trivial|intro h|refine aO ?_|refine eO ?_|apply jO)
   all_goals try (exfalso; omega)
   exact ⟨q, by simp [setLit], by simp only [setLit]; rw [getD_lt hi, List.map_set]⟩
  ·have hk : okV e.lit 1 = false := by rw [okV1]; exact decide_eq_false hv
   simp only [hr, hv, and_false, if_false]
   (refine V1 hr ?_; with_reducible repeat' first|exact trivial|intro h|refine aO ?_|refine eO ?_|apply jO)
   refine callS.eq (w78 _ _) ?_
   rw [hk]
   (refine V0 ?_; with_reducible repeat' first|exact trivial|intro h|refine aO ?_|refine eO ?_|apply jO)
   exact ⟨q, rfl, rfl⟩
theorem o41 (g : Gram) (t : List Nod) (i : Nat) (e : Edi) (hg : smGr g) (hm : mkEnd 1 t ≤ 400) (hi : i < t.length) (hu1 : e.tree.length ≤ 1048576) (hu2 : ∀ x ∈ e.tree, x.kids.length ≤ 1048576) (H : GH) :
  Gc 41 [Gr g, Tr t, I i, Ed e] H (OwnTI (replT g t i e.tree) H) := by
 obtain ⟨hl, hx⟩ := mk_sm (n := 1048576) (t := t) (by omega)
 have hl4 := (mk_sm (n := 400) (t := t) (by omega)).1
 have hsl := subLen_le hi
 have hsp := subLen_pos (t := t) (i := i)
 have hts := treeSize_in hi
 have htr := w64 g e.tree (symN g t i) hg hu1 hu2
 unfold replT
 refine gstart mxd i41 rfl (by simp) ?_; refine X0 ?_
 (refine V0 ?_; with_reducible repeat' first|exact trivial|intro h|refine aO ?_|refine eO ?_|apply jO)
 refine callS.eq (w79 t i) ?_
 rw [hts]
 (refine V0 ?_; with_reducible repeat' first|exact trivial|intro h|refine aO ?_|refine eO ?_|apply jO)
 refine callS.eq (w65 g t i hg) ?_
 (refine V0 ?_; with_reducible repeat' first|exact trivial|intro h|refine aO ?_|refine eO ?_|apply jO)
 refine callS.eq htr ?_
 rcases (Bool.eq_false_or_eq_true (treeOf g e.tree (symN g t i))).symm with hb | hb
 ·simp only [hb, Bool.false_eq_true, if_false]
  (refine V0 ?_; with_reducible repeat' first|exact trivial|intro h|refine aO ?_|refine eO ?_|apply jO)
  refine callS.of (o38 t hl hx _) ?_
  rintro v H' ⟨q, rfl, rfl⟩ -
  (refine V0 ?_; with_reducible repeat' first|exact trivial|intro h|refine aO ?_|refine eO ?_|apply jO)
  exact ⟨q, rfl, rfl⟩
 ·have hum := (treeOf_parts hb).1
  simp only [hb, if_true]
  (refine V0 ?_; with_reducible repeat' first|exact trivial|intro h|refine aO ?_|refine eO ?_|apply jO)
  have hpe : ∃ p : Nat → Bool, outB t e.tree i = p := ⟨_, rfl⟩
  obtain ⟨p, hpe⟩ := hpe
  rw [hpe]
  refine wloop mxd (ι := { k : Nat // k ≤ t.length ∧ ∀ j, j < k → p j = false }) (fun k => [(2, I i), (4, .rop 2 (Gr g)), (5, .rop 1 (Tr t)), (7, .rop 5 (Ed e)), (8, .raw 1), (10, I (subLen t i)), (11, I k.1)]) (fun _ => H) (fun k => t.length - k.1) ⟨0, by simp⟩ (by simp [E2]) rfl ?_
  rintro ⟨k, hk, hn⟩
  have snoc : p k = false → ∀ j, j < k + 1 → p j = false := fun h j hj => by
   by_cases e : j = k
   ·rw [e]; exact h
   ·exact hn j (by omega)
  rcases Nat.lt_or_ge k t.length with hlt | hge
  ·have hpk : outB t e.tree i k = p k := by rw [hpe]
   unfold outB at hpk
   rw [getD_lt hlt] at hpk
   (refine V0 ?_; with_reducible repeat' first|exact trivial|intro h|refine aO ?_|refine eO ?_|apply jO)
   all_goals try (exfalso; omega)
   refine callS.eq (w37 _ _ _) ?_
   by_cases h1 : (i : Int) ≤ k ∧ (k : Int) ≤ (i : Int) + subLen t i - 1
   ·have h1' := eq_true h1
    rw [decide_eq_true h1] at hpk
    (refine V1 (jO h1' @decide_true) ?_; with_reducible repeat' first|exact trivial|intro h|refine aO ?_|refine eO ?_|apply jO)
    exact nx ⟨k + 1, by omega, snoc (by rw [← hpk]; rfl)⟩ (by simp; omega) (by simp [E2]) rfl
   ·have h1' := eq_false h1
    rw [decide_eq_false h1] at hpk
    (refine V1 (jO h1' @decide_false) ?_; with_reducible repeat' first|exact trivial|intro h|refine aO ?_|refine eO ?_|apply jO)
    all_goals try (exfalso; omega)
    refine callS.eq (n39 e.tree t[k].id) ?_
    by_cases h2 : 0 ≤ ixId e.tree t[k].id
    ·have h2' := eq_true h2
     rw [decide_eq_true h2] at hpk
     have hf : (List.range t.length).any p = true := by
      rw [List.any_eq_true]
      exact ⟨k, by rw [List.mem_range]; exact hlt, hpk.symm⟩
     simp only [hf, if_true]
     (refine V1 (jO h2' (jO @ge_iff_le.{0} @decide_true)) ?_; with_reducible repeat' first|exact trivial|intro h|refine aO ?_|refine eO ?_|apply jO)
     refine callS.of (o38 t hl hx _) ?_
     rintro v H' ⟨q, rfl, rfl⟩ -
     (refine V0 ?_; with_reducible repeat' first|exact trivial|intro h|refine aO ?_|refine eO ?_|apply jO)
     exact ⟨q, rfl, rfl⟩
    ·have h2' := eq_false h2
     rw [decide_eq_false h2] at hpk
     (refine V1 (jO h2' (jO @ge_iff_le.{0} @decide_false)) ?_; with_reducible repeat' first|exact trivial|intro h|refine aO ?_|refine eO ?_|apply jO)
     exact nx ⟨k + 1, by omega, snoc (by rw [← hpk]; rfl)⟩ (by simp; omega) (by simp [E2]) rfl
  ·obtain rfl : k = t.length := by omega
   have hf : (List.range t.length).any p = false := by
    rw [List.any_eq_false]
    exact fun j hj => by rw [hn j (by rw [List.mem_range] at hj; exact hj)]; simp
   simp only [hf, Bool.false_eq_true, if_false]
   by_cases h3 : 16 < (t.length : Int) - subLen t i + e.tree.length
   ·have h3' := eq_true h3
    simp only [h3, if_true]
    (refine V1 (jO h3' (jO @gt_iff_lt.{0} @decide_true)) ?_; with_reducible repeat' first|exact trivial|intro h|refine aO ?_|refine eO ?_|apply jO)
    all_goals try (exfalso; omega)
    refine callS.of (o38 t hl hx _) ?_
    rintro v H' ⟨q, rfl, rfl⟩ -
    (refine V0 ?_; with_reducible repeat' first|exact trivial|intro h|refine aO ?_|refine eO ?_|apply jO)
    exact ⟨q, rfl, rfl⟩
   ·have h3' := eq_false h3
    simp only [h3, if_false]
    (refine V1 (jO h3' (jO @gt_iff_lt.{0} @decide_false)) ?_; with_reducible repeat' first|exact trivial|intro h|refine aO ?_|refine eO ?_|apply jO)
    all_goals try (exfalso; omega)
    refine callS.of (o80 t i e.tree hl hx hu1 hu2 _) ?_
    rintro v H' ⟨q, rfl, rfl⟩ -
    (refine V0 ?_; with_reducible repeat' first|exact trivial|intro h|refine aO ?_|refine eO ?_|apply jO)
    exact ⟨q, rfl, rfl⟩
theorem o51 (g : Gram) (t : List Nod) (i : Nat) (e : Edi) (hg : smGr g) (hm : mkEnd 1 t ≤ 400) (hi : i < t.length) (hu1 : e.tree.length ≤ 1048576) (hu2 : ∀ x ∈ e.tree, x.kids.length ≤ 1048576) (H : GH) :
  Gc 51 [Gr g, Tr t, I i, Tr e.tree] H (OwnTI (replT g t i e.tree) H) := by
 obtain ⟨hl, hx⟩ := mk_sm (n := 1048576) (t := t) (by omega)
 have hl4 := (mk_sm (n := 400) (t := t) (by omega)).1
 have hsl := subLen_le hi
 have hsp := subLen_pos (t := t) (i := i)
 have hts := treeSize_in hi
 have htr := w88 g e.tree (symN g t i) hg hu1 hu2
 unfold replT
 refine gstart mxd i51 rfl (by simp) ?_; refine X0 ?_
 (refine V0 ?_; with_reducible repeat' first|exact trivial|intro h|refine aO ?_|refine eO ?_|apply jO)
 refine callS.eq (w92 g t i hg) ?_
 (refine V0 ?_; with_reducible repeat' first|exact trivial|intro h|refine aO ?_|refine eO ?_|apply jO)
 refine callS.eq htr ?_
 rcases (Bool.eq_false_or_eq_true (treeOf g e.tree (symN g t i))).symm with hb | hb
 ·simp only [hb, Bool.false_eq_true, if_false]
  (refine V0 ?_; with_reducible repeat' first|exact trivial|intro h|refine aO ?_|refine eO ?_|apply jO)
  refine callS.of (o49 t hl hx _) ?_
  rintro v H' ⟨q, rfl, rfl⟩ -
  (refine V0 ?_; with_reducible repeat' first|exact trivial|intro h|refine aO ?_|refine eO ?_|apply jO)
  exact ⟨q, rfl, rfl⟩
 ·have hum := (treeOf_parts hb).1
  simp only [hb, if_true]
  (refine V0 ?_; with_reducible repeat' first|exact trivial|intro h|refine aO ?_|refine eO ?_|apply jO)
  refine callS.eq (w93 t i) ?_
  rw [hts]
  (refine V0 ?_; with_reducible repeat' first|exact trivial|intro h|refine aO ?_|refine eO ?_|apply jO)
  have hpe : ∃ p : Nat → Bool, outB t e.tree i = p := ⟨_, rfl⟩
  obtain ⟨p, hpe⟩ := hpe
  rw [hpe]
  refine wloop mxd (ι := { k : Nat // k ≤ t.length ∧ ∀ j, j < k → p j = false }) (fun k => [(2, I i), (4, .rop 2 (Gr g)), (5, .rop 1 (Tr t)), (7, .rop 1 (Tr e.tree)), (8, .raw 1), (10, I (subLen t i)), (27, NdS t), (28, I t.length), (29, I k.1)]) (fun _ => H) (fun k => t.length - k.1) ⟨0, by simp⟩ (by simp [E2]) rfl ?_
  rintro ⟨k, hk, hn⟩
  have snoc : p k = false → ∀ j, j < k + 1 → p j = false := fun h j hj => by
   by_cases e : j = k
   ·rw [e]; exact h
   ·exact hn j (by omega)
  rcases Nat.lt_or_ge k t.length with hlt | hge
  ·have hpk : outB t e.tree i k = p k := by rw [hpe]
   unfold outB at hpk
   rw [getD_lt hlt] at hpk
   (refine V0 ?_; with_reducible repeat' first|exact trivial|intro h|refine aO ?_|refine eO ?_|apply jO)
   all_goals try (exfalso; omega)
   refine callS.eq (w48 _ _ _) ?_
   by_cases h1 : (i : Int) ≤ k ∧ (k : Int) ≤ (i : Int) + subLen t i - 1
   ·have h1' := eq_true h1
    rw [decide_eq_true h1] at hpk
    (refine V1 (jO h1' @decide_true) ?_; with_reducible repeat' first|exact trivial|intro h|refine aO ?_|refine eO ?_|apply jO)
    exact nx ⟨k + 1, by omega, snoc (by rw [← hpk]; rfl)⟩ (by simp; omega) (by simp [E2]) rfl
   ·have h1' := eq_false h1
    rw [decide_eq_false h1] at hpk
    (refine V1 (jO h1' @decide_false) ?_; with_reducible repeat' first|exact trivial|intro h|refine aO ?_|refine eO ?_|apply jO)
    all_goals try (exfalso; omega)
    refine callS.eq (n50 e.tree t[k].id) ?_
    by_cases h2 : 0 ≤ ixId e.tree t[k].id
    ·have h2' := eq_true h2
     rw [decide_eq_true h2] at hpk
     have hf : (List.range t.length).any p = true := by
      rw [List.any_eq_true]
      exact ⟨k, by rw [List.mem_range]; exact hlt, hpk.symm⟩
     simp only [hf, if_true]
     (refine V1 (jO h2' (jO @ge_iff_le.{0} @decide_true)) ?_; with_reducible repeat' first|exact trivial|intro h|refine aO ?_|refine eO ?_|apply jO)
     refine callS.of (o49 t hl hx _) ?_
     rintro v H' ⟨q, rfl, rfl⟩ -
     (refine V0 ?_; with_reducible repeat' first|exact trivial|intro h|refine aO ?_|refine eO ?_|apply jO)
     exact ⟨q, rfl, rfl⟩
    ·have h2' := eq_false h2
     rw [decide_eq_false h2] at hpk
     (refine V1 (jO h2' (jO @ge_iff_le.{0} @decide_false)) ?_; with_reducible repeat' first|exact trivial|intro h|refine aO ?_|refine eO ?_|apply jO)
     exact nx ⟨k + 1, by omega, snoc (by rw [← hpk]; rfl)⟩ (by simp; omega) (by simp [E2]) rfl
  ·obtain rfl : k = t.length := by omega
   have hf : (List.range t.length).any p = false := by
    rw [List.any_eq_false]
    exact fun j hj => by rw [hn j (by rw [List.mem_range] at hj; exact hj)]; simp
   simp only [hf, Bool.false_eq_true, if_false]
   by_cases h3 : 16 < (t.length : Int) - subLen t i + e.tree.length
   ·have h3' := eq_true h3
    simp only [h3, if_true]
    (refine V1 (jO h3' (jO @gt_iff_lt.{0} @decide_true)) ?_; with_reducible repeat' first|exact trivial|intro h|refine aO ?_|refine eO ?_|apply jO)
    all_goals try (exfalso; omega)
    refine callS.of (o49 t hl hx _) ?_
    rintro v H' ⟨q, rfl, rfl⟩ -
    (refine V0 ?_; with_reducible repeat' first|exact trivial|intro h|refine aO ?_|refine eO ?_|apply jO)
    exact ⟨q, rfl, rfl⟩
   ·have h3' := eq_false h3
    simp only [h3, if_false]
    (refine V1 (jO h3' (jO @gt_iff_lt.{0} @decide_false)) ?_; with_reducible repeat' first|exact trivial|intro h|refine aO ?_|refine eO ?_|apply jO)
    all_goals try (exfalso; omega)
    refine callS.of (o94 t i e.tree hl hx hu1 hu2 _) ?_
    rintro v H' ⟨H1, ⟨q, rfl, rfl⟩, rfl⟩ -
    (refine V0 ?_; with_reducible repeat' first|exact trivial|intro h|refine aO ?_|refine eO ?_|apply jO)
    exact ⟨q, rfl, rfl⟩
theorem o42 (g : Gram) (t : List Nod) (i k : Int) (hg : smGr g) (hm : mkEnd 1 t ≤ 400) (hi : 0 ≤ i ∧ i < t.length) (hk : 0 ≤ k ∧ k < t.length) (H : GH) :
  Gc 42 [Gr g, Tr t, I i, I k] H (OwnTI (swT g t (min i k).toNat (max i k).toNat) H) := by
 obtain ⟨hl, hx⟩ := mk_sm (n := 1048576) (t := t) (by omega)
 obtain ⟨a, ha⟩ : ∃ a : Nat, min i k = a := ⟨(min i k).toNat, by omega⟩
 obtain ⟨b, hb⟩ : ∃ b : Nat, max i k = b := ⟨(max i k).toNat, by omega⟩
 have hal : a < t.length := by omega
 have hbl : b < t.length := by omega
 have ha2 : (if k < i then k else i) = (a : Int) := by split <;> omega
 have hb2 : (if i < k then k else i) = (b : Int) := by split <;> omega
 have hsl := subLen_le hal
 have hts := treeSize_in hal
 unfold swT
 simp only [ha, hb, Int.toNat_natCast]
 refine gstart mxd i42 rfl (by simp) ?_; refine X0 ?_
 (refine V0 ?_; with_reducible repeat' first|exact trivial|intro h|refine aO ?_|refine eO ?_|apply jO)
 refine callS.eq (w81 i k) ?_
 rw [ha]
 (refine V0 ?_; with_reducible repeat' first|exact trivial|intro h|refine aO ?_|refine eO ?_|apply jO)
 refine callS.eq (w82 i k) ?_
 rw [hb]
 (refine V0 ?_; with_reducible repeat' first|exact trivial|intro h|refine aO ?_|refine eO ?_|apply jO)
 refine callS.eq (w79 t a) ?_
 rw [hts]
 by_cases h1 : (b : Int) < (a : Int) + subLen t a
 ·have h1' := eq_true h1
  simp only [h1, if_true]
  (refine V1 (jO h1' @decide_true) ?_; with_reducible repeat' first|exact trivial|intro h|refine aO ?_|refine eO ?_|apply jO)
  all_goals try (exfalso; omega)
  refine callS.of (o38 t hl hx _) ?_
  rintro v H' ⟨q, rfl, rfl⟩ -
  (refine V0 ?_; with_reducible repeat' first|exact trivial|intro h|refine aO ?_|refine eO ?_|apply jO)
  exact ⟨q, rfl, rfl⟩
 ·have h1' := eq_false h1
  simp only [h1, if_false]
  (refine V1 (jO h1' @decide_false) ?_; with_reducible repeat' first|exact trivial|intro h|refine aO ?_|refine eO ?_|apply jO)
  all_goals try (exfalso; omega)
  refine callS.eq (w65 g t a hg) ?_
  (refine V0 ?_; with_reducible repeat' first|exact trivial|intro h|refine aO ?_|refine eO ?_|apply jO)
  refine callS.eq (w65 g t b hg) ?_
  by_cases h2 : symN g t a = symN g t b
  ·have hs1 := mkEnd_subT t a
   have hs2 := mkEnd_subT t b
   have hr1 := mkEnd_repT t b (subT t a)
   obtain ⟨e1, e2⟩ := mk_sm (n := 1048576) (t := subT t a) (by omega)
   obtain ⟨e3, e4⟩ := mk_sm (n := 1048576) (t := subT t b) (by omega)
   obtain ⟨e5, e6⟩ := mk_sm (n := 1048576) (t := repT t b (subT t a)) (by omega)
   have h2' : (chars (symN g t a) = chars (symN g t b)) = True := eq_true (by rw [h2])
   rw [if_pos h2]
   (refine V1 (jO h2' @decide_true) ?_; with_reducible repeat' first|exact trivial|intro h|refine aO ?_|refine eO ?_|apply jO)
   refine callS.eq (q83 t a hl hx) ?_
   (refine V0 ?_; with_reducible repeat' first|exact trivial|intro h|refine aO ?_|refine eO ?_|apply jO)
   refine callS.eq (q80 t b (subT t a) hl hx e1 e2) ?_
   (refine V0 ?_; with_reducible repeat' first|exact trivial|intro h|refine aO ?_|refine eO ?_|apply jO)
   refine callS.eq (q83 t b hl hx) ?_
   (refine V0 ?_; with_reducible repeat' first|exact trivial|intro h|refine aO ?_|refine eO ?_|apply jO)
   refine callA.of (o80 (repT t b (subT t a)) a (subT t b) e5 e6 e3 e4 _) (by rintro v H' ⟨r, rfl, rfl⟩; exact ⟨[_], rfl⟩) ?_
   rintro v H' ⟨r, rfl, rfl⟩ -
   (refine V0 ?_; with_reducible repeat' first|exact trivial|intro h|refine aO ?_|refine eO ?_|apply jO)
   exact ⟨r, rfl, rfl⟩
  ·have h2c : ¬ chars (symN g t a) = chars (symN g t b) := fun e => h2 (chars_inj.1 e)
   have h2' := eq_false h2c
   rw [if_neg h2]
   (refine V1 (jO h2' @decide_false) ?_; with_reducible repeat' first|exact trivial|intro h|refine aO ?_|refine eO ?_|apply jO)
   refine callS.of (o38 t hl hx _) ?_
   rintro v H' ⟨q, rfl, rfl⟩ -
   (refine V0 ?_; with_reducible repeat' first|exact trivial|intro h|refine aO ?_|refine eO ?_|apply jO)
   exact ⟨q, rfl, rfl⟩
theorem o52 (g : Gram) (t : List Nod) (i k : Int) (hg : smGr g) (hm : mkEnd 1 t ≤ 400) (hi : 0 ≤ i ∧ i < t.length) (hk : 0 ≤ k ∧ k < t.length) (H : GH) :
  Gc 52 [Gr g, Tr t, I i, I k] H (OwnTI (swT g t (min i k).toNat (max i k).toNat) H) := by
 obtain ⟨hl, hx⟩ := mk_sm (n := 1048576) (t := t) (by omega)
 obtain ⟨a, ha⟩ : ∃ a : Nat, min i k = a := ⟨(min i k).toNat, by omega⟩
 obtain ⟨b, hb⟩ : ∃ b : Nat, max i k = b := ⟨(max i k).toNat, by omega⟩
 have hal : a < t.length := by omega
 have hbl : b < t.length := by omega
 have ha2 : (if k < i then k else i) = (a : Int) := by split <;> omega
 have hb2 : (if i < k then k else i) = (b : Int) := by split <;> omega
 have hsl := subLen_le hal
 have hts := treeSize_in hal
 unfold swT
 simp only [ha, hb, Int.toNat_natCast]
 refine gstart mxd i52 rfl (by simp) ?_; refine X0 ?_
 (refine V1 (jO ha2 hb2) ?_; with_reducible repeat' first|exact trivial|intro h|refine aO ?_|refine eO ?_|apply jO)
 refine callS.eq (w93 t a) ?_
 rw [hts]
 by_cases h1 : (b : Int) < (a : Int) + subLen t a
 ·have h1' := eq_true h1
  simp only [h1, if_true]
  (refine V1 (jO h1' @decide_true) ?_; with_reducible repeat' first|exact trivial|intro h|refine aO ?_|refine eO ?_|apply jO)
  all_goals try (exfalso; omega)
  refine callS.of (o49 t hl hx _) ?_
  rintro v H' ⟨q, rfl, rfl⟩ -
  (refine V0 ?_; with_reducible repeat' first|exact trivial|intro h|refine aO ?_|refine eO ?_|apply jO)
  exact ⟨q, rfl, rfl⟩
 ·have h1' := eq_false h1
  simp only [h1, if_false]
  (refine V1 (jO h1' @decide_false) ?_; with_reducible repeat' first|exact trivial|intro h|refine aO ?_|refine eO ?_|apply jO)
  all_goals try (exfalso; omega)
  refine callS.eq (w92 g t a hg) ?_
  (refine V0 ?_; with_reducible repeat' first|exact trivial|intro h|refine aO ?_|refine eO ?_|apply jO)
  refine callS.eq (w92 g t b hg) ?_
  by_cases h2 : symN g t a = symN g t b
  ·have hs1 := mkEnd_subT t a
   have hs2 := mkEnd_subT t b
   have hr1 := mkEnd_repT t b (subT t a)
   obtain ⟨e1, e2⟩ := mk_sm (n := 1048576) (t := subT t a) (by omega)
   obtain ⟨e3, e4⟩ := mk_sm (n := 1048576) (t := subT t b) (by omega)
   obtain ⟨e5, e6⟩ := mk_sm (n := 1048576) (t := repT t b (subT t a)) (by omega)
   have h2' : (chars (symN g t a) = chars (symN g t b)) = True := eq_true (by rw [h2])
   rw [if_pos h2]
   (refine V1 (jO h2' @decide_true) ?_; with_reducible repeat' first|exact trivial|intro h|refine aO ?_|refine eO ?_|apply jO)
   refine callS.eq (q95 t a hl hx) ?_
   (refine V0 ?_; with_reducible repeat' first|exact trivial|intro h|refine aO ?_|refine eO ?_|apply jO)
   refine callS.eq (q95 t b hl hx) ?_
   (refine V0 ?_; with_reducible repeat' first|exact trivial|intro h|refine aO ?_|refine eO ?_|apply jO)
   refine callS.eq (q94 t b (subT t a) hl hx e1 e2) ?_
   (refine V0 ?_; with_reducible repeat' first|exact trivial|intro h|refine aO ?_|refine eO ?_|apply jO)
   refine callA.of (o94 (repT t b (subT t a)) a (subT t b) e5 e6 e3 e4 _) (by rintro v H' ⟨H1, ⟨r, rfl, rfl⟩, rfl⟩; exact ⟨[_], rfl⟩) ?_
   rintro v H' ⟨H1, ⟨r, rfl, rfl⟩, rfl⟩ -
   (refine V0 ?_; with_reducible repeat' first|exact trivial|intro h|refine aO ?_|refine eO ?_|apply jO)
   exact ⟨r, rfl, rfl⟩
  ·have h2c : ¬ chars (symN g t a) = chars (symN g t b) := fun e => h2 (chars_inj.1 e)
   have h2' := eq_false h2c
   rw [if_neg h2]
   (refine V1 (jO h2' @decide_false) ?_; with_reducible repeat' first|exact trivial|intro h|refine aO ?_|refine eO ?_|apply jO)
   refine callS.of (o49 t hl hx _) ?_
   rintro v H' ⟨q, rfl, rfl⟩ -
   (refine V0 ?_; with_reducible repeat' first|exact trivial|intro h|refine aO ?_|refine eO ?_|apply jO)
   exact ⟨q, rfl, rfl⟩
end Go.Proofs.YthnchomedekciaaGreat
