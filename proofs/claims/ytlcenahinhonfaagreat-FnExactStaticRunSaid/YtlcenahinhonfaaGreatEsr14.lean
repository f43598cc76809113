/- The law FnExactStaticRun returns true whatever the input, and the input reads behind the call as before. No condition. -/
import Derived.Test.YtlcenahinhonfaaGreatEsr13
set_option maxHeartbeats 40000000
namespace Go.Proofs.YtlcenahinhonfaaGreat
open Go.Gh
open Nat (reduceEqDiff reduceLeDiff reduceAdd reduceLT)
open Int (reduceNe)
set_option maxRecDepth 20000
set_option linter.unusedSimpArgs false
set_option linter.unusedVariables false
theorem o6 (g : Gram) (t : List Nod) (hg : smGr g) (ho : okGr g) (hl : t.length ≤ 1048576) (hkk : ∀ x ∈ t, x.kids.length ≤ 1048576) (H : GH) :
  Gc 6 [Gr g, Tr t] H (fun v H' => ∃ H1, (∃ r, v = .tup [.own r 1 0 (runL g t).length, B (runB g t)] ∧ H1 = [(r, 1, (runL g t).map I)]) ∧ H' = H1 ++ H) := by
 have q1 := q20 g t hg hl hkk
 have q2 := q21 g t hg hl hkk
 have q3 := w22 g hg ho
 have q4 := w23 g t (symN g t 0) hg hl hkk
 have hLb := insL_len hg t
 have hOm := ordL_mem (tabI g t)
 have hOl := ordL_len (tabI g t)
 have hTl : (tabI g t).length = (insL g t).length := by simp [tabI]
 have hva : treeOf g t (symN g t 0) = true → ∀ x vs, (insL g t).length = vs.length → Pu 25 [Gr g, Tr t, Ins x, InsS (insL g t), IS vs] (· = I (vaX g t (insL g t) vs x)) := fun h x vs hv => w25 g t x vs hg ho hl hkk h hv
 have hno := insL_no (g := g) (t := t)
 rw [hTl] at hOm hOl
 by_cases hrb : runB g t = true
 ·have hrb0 := hrb
  simp only [runB, Bool.and_eq_true] at hrb0
  obtain ⟨hs, ht, hb⟩ := hrb0
  have hrl : runL g t = runV g t (insL g t) (ordL (tabI g t)) (ordL (tabI g t)).length := by unfold runL; rw [if_pos hrb]
  rw [hrl, hrb]
  rw [hs] at q3
  rw [ht] at q4
  rw [hb] at q2
  replace hva := hva ht
  clear hno hrl hrb
  generalize ordL (tabI g t) = O at *
  have hVl := runV_len g t (insL g t) O
  have hVs := fun (k j : Nat) h hj hjl => runV_s (g := g) (t := t) (L := insL g t) (O := O) (k := k) (j := j) h hj hjl
  have hV0 : runV g t (insL g t) O 0 = List.replicate (insL g t).length 0 := rfl
  generalize runV g t (insL g t) O = V at *
  generalize insL g t = L at *
  refine gstart mxd i6 rfl (by simp) ?_; refine X0 ?_
  (refine V0 ?_; with_reducible repeat' first|exact trivial|intro h|refine aO ?_|refine eO ?_|apply jO)
  refine callS.eq q1 ?_
  (refine V0 ?_; with_reducible repeat' first|exact trivial|intro h|refine aO ?_|refine eO ?_|apply jO)
  refine callS.eq q2 ?_
  (refine V0 ?_; with_reducible repeat' first|exact trivial|intro h|refine aO ?_|refine eO ?_|apply jO)
  refine callS.eq q3 ?_
  by_cases hL0 : L.length = 0
  ·have hL0' : ((L.length : Int) = 0) = True := eq_true (by omega)
   (refine V1 (jO hL0' @decide_true) ?_; with_reducible repeat' first|exact trivial|intro h|refine aO ?_|refine eO ?_|apply jO)
   refine callS.eq (w24 g t 0 hg) ?_
   (refine V0 ?_; with_reducible repeat' first|exact trivial|intro h|refine aO ?_|refine eO ?_|apply jO)
   refine callS.eq q4 ?_
   (refine V0 ?_; with_reducible repeat' first|exact trivial|intro h|refine aO ?_|refine eO ?_|apply jO)
   all_goals try exact oF
   rename_i r
   refine wloop mxd (ι := { k : Nat // k ≤ O.length }) (fun k => [(2, .rop 2 (Gr g)), (3, .rop 1 (Tr t)), (6, InsS L), (7, IS O), (9, .own r 1 0 L.length), (10, I k.1)]) (fun k => (r, 1, (V k.1).map I) :: H) (fun k => O.length - k.1) ⟨0, by simp⟩ (by simp [E2]) (by simp [hV0]) ?_
   rintro ⟨k, hk⟩
   rcases nL k O.length with hlt | hge
   ·have hm := hOm _ (gM hlt)
    exfalso
    omega
   ·obtain rfl : k = O.length := by omega
    (refine V0 ?_; with_reducible repeat' first|exact trivial|intro h|refine aO ?_|refine eO ?_|apply jO)
    all_goals try exact oF
    exact ⟨_, ⟨r, by rw [hVl], rfl⟩, rfl⟩
  ·have hL0' : ((L.length : Int) = 0) = False := eq_false (by omega)
   (refine V1 (jO hL0' @decide_false) ?_; with_reducible repeat' first|exact trivial|intro h|refine aO ?_|refine eO ?_|apply jO)
   all_goals try exact oF
   rename_i r
   refine wloop mxd (ι := { k : Nat // k ≤ O.length }) (fun k => [(2, .rop 2 (Gr g)), (3, .rop 1 (Tr t)), (6, InsS L), (7, IS O), (9, .own r 1 0 L.length), (10, I k.1)]) (fun k => (r, 1, (V k.1).map I) :: H) (fun k => O.length - k.1) ⟨0, by simp⟩ (by simp [E2]) (by simp [hV0]) ?_
   rintro ⟨k, hk⟩
   rcases nL k O.length with hlt | hge
   ·have hm := hOm _ (gM hlt)
    obtain ⟨j, hj⟩ : ∃ j : Nat, O[k] = j := ⟨O[k].toNat, by omega⟩
    rw [hj] at hm
    have hjl : j < L.length := by omega
    have hv := hVs k j hlt hj hjl
    have hvl := hVl k
    have hc := hva L[j] (V k) hvl.symm
    clear hVs
    (refine V1 (jO hj (jO @List.length_map.{0,0} hvl)) ?_; with_reducible repeat' first|exact trivial|intro h|refine aO ?_|refine eO ?_|apply jO)
    all_goals try exact oF
    refine callS.borA hc (.cons .refl (.cons .refl (.cons .refl (.cons .refl (.cons (bor_IS hget_new hvl) .nil))))) rfl ?_
    (refine V1 (jO hj (jO @List.length_map.{0,0} hvl)) ?_; with_reducible repeat' first|exact trivial|intro h|refine aO ?_|refine eO ?_|apply jO)
    all_goals try exact oF
    refine nx ⟨k + 1, by omega⟩ (by simp; omega) (by simp [E2]) ?_
    show _ = (r, 1, (V (k + 1)).map I) :: H
    rw [hv, List.map_set]
   ·obtain rfl : k = O.length := by omega
    (refine V0 ?_; with_reducible repeat' first|exact trivial|intro h|refine aO ?_|refine eO ?_|apply jO)
    all_goals try exact oF
    exact ⟨_, ⟨r, by rw [hVl], rfl⟩, rfl⟩
 ·have hrl : runL g t = [] := by unfold runL; rw [if_neg hrb]
  have hrf : runB g t = false := by simpa using hrb
  rw [hrl, hrf]
  simp only [runB, Bool.and_eq_true, not_and, Bool.not_eq_true] at hrb
  generalize ordL (tabI g t) = O at *
  generalize ordB (tabI g t) = ob at *
  generalize hLd : insL g t = L at *
  refine gstart mxd i6 rfl (by simp) ?_; refine X0 ?_
  (refine V0 ?_; with_reducible repeat' first|exact trivial|intro h|refine aO ?_|refine eO ?_|apply jO)
  refine callS.eq q1 ?_
  (refine V0 ?_; with_reducible repeat' first|exact trivial|intro h|refine aO ?_|refine eO ?_|apply jO)
  refine callS.eq q2 ?_
  (refine V0 ?_; with_reducible repeat' first|exact trivial|intro h|refine aO ?_|refine eO ?_|apply jO)
  refine callS.eq q3 ?_
  rcases bC (staS g) with hs | hs
  ·(refine V1 hs ?_; with_reducible repeat' first|exact trivial|intro h|refine aO ?_|refine eO ?_|apply jO)
   exact ⟨_, ⟨_, rfl, rfl⟩, rfl⟩
  rcases bC (treeOf g t (symN g t 0)) with ht | ht
  ·have hL0' : ((L.length : Int) = 0) = True := eq_true (by rw [hno ht]; rfl)
   rw [ht] at q4
   (refine V1 (jO hs (jO hL0' @decide_true)) ?_; with_reducible repeat' first|exact trivial|intro h|refine aO ?_|refine eO ?_|apply jO)
   refine callS.eq (w24 g t 0 hg) ?_
   (refine V0 ?_; with_reducible repeat' first|exact trivial|intro h|refine aO ?_|refine eO ?_|apply jO)
   refine callS.eq q4 ?_
   (refine V0 ?_; with_reducible repeat' first|exact trivial|intro h|refine aO ?_|refine eO ?_|apply jO)
   exact ⟨_, ⟨_, rfl, rfl⟩, rfl⟩
  have hob := hrb hs ht
  rw [ht] at q4
  by_cases hL0 : L.length = 0
  ·have hL0' : ((L.length : Int) = 0) = True := eq_true (by omega)
   (refine V1 (jO hs (jO hL0' @decide_true)) ?_; with_reducible repeat' first|exact trivial|intro h|refine aO ?_|refine eO ?_|apply jO)
   refine callS.eq (w24 g t 0 hg) ?_
   (refine V0 ?_; with_reducible repeat' first|exact trivial|intro h|refine aO ?_|refine eO ?_|apply jO)
   refine callS.eq q4 ?_
   (refine V1 hob ?_; with_reducible repeat' first|exact trivial|intro h|refine aO ?_|refine eO ?_|apply jO)
   exact ⟨_, ⟨_, rfl, rfl⟩, rfl⟩
  ·have hL0' : ((L.length : Int) = 0) = False := eq_false (by omega)
   (refine V1 (jO hs (jO hL0' (jO hob @decide_false))) ?_; with_reducible repeat' first|exact trivial|intro h|refine aO ?_|refine eO ?_|apply jO)
   exact ⟨_, ⟨_, rfl, rfl⟩, rfl⟩
theorem o9 (g : Gram) (t : List Nod) (hg : smGr g) (ho : okGr g) (hl : t.length ≤ 1048576) (hkk : ∀ x ∈ t, x.kids.length ≤ 1048576) (H : GH) :
  Gc 9 [Gr g, Tr t] H (fun v H' => ∃ H1, (∃ r, v = .tup [.own r 1 0 (runL g t).length, B (runB g t)] ∧ H1 = [(r, 1, (runL g t).map I)]) ∧ H' = H1 ++ H) := by
 have q1 := q32 g t hg hl hkk
 have q2 := q29 g t hg hl hkk
 have q3 := w30 g hg ho
 have q4 := w31 g t hg hl hkk
 have hLb := insL_len hg t
 have hOm := ordL_mem (tabI g t)
 have hOl := ordL_len (tabI g t)
 have hTl : (tabI g t).length = (insL g t).length := by simp [tabI]
 have hva : treeOf g t (symN g t 0) = true → ∀ x vs, (insL g t).length = vs.length → Pu 33 [Gr g, Tr t, Ins x, IS vs] (· = I (vaX g t (insL g t) vs x)) := fun h x vs hv => w33 g t x vs hg ho hl hkk h hv
 have hno := insL_no (g := g) (t := t)
 rw [hTl] at hOm hOl
 by_cases hrb : runB g t = true
 ·have hrb0 := hrb
  simp only [runB, Bool.and_eq_true] at hrb0
  obtain ⟨hs, ht, hb⟩ := hrb0
  have hrl : runL g t = runV g t (insL g t) (ordL (tabI g t)) (ordL (tabI g t)).length := by unfold runL; rw [if_pos hrb]
  rw [hrl, hrb]
  rw [hs] at q3
  rw [ht] at q4
  rw [hb] at q2
  replace hva := hva ht
  clear hno hrl hrb
  generalize ordL (tabI g t) = O at *
  have hVl := runV_len g t (insL g t) O
  have hVs := fun (k j : Nat) h hj hjl => runV_s (g := g) (t := t) (L := insL g t) (O := O) (k := k) (j := j) h hj hjl
  have hV0 : runV g t (insL g t) O 0 = List.replicate (insL g t).length 0 := rfl
  generalize runV g t (insL g t) O = V at *
  generalize insL g t = L at *
  refine gstart mxd i9 rfl (by simp) ?_; refine X0 ?_
  (refine V0 ?_; with_reducible repeat' first|exact trivial|intro h|refine aO ?_|refine eO ?_|apply jO)
  refine callS.eq q2 ?_
  (refine V0 ?_; with_reducible repeat' first|exact trivial|intro h|refine aO ?_|refine eO ?_|apply jO)
  refine callS.eq q3 ?_
  (refine V0 ?_; with_reducible repeat' first|exact trivial|intro h|refine aO ?_|refine eO ?_|apply jO)
  refine callS.eq q4 ?_
  (refine V0 ?_; with_reducible repeat' first|exact trivial|intro h|refine aO ?_|refine eO ?_|apply jO)
  refine callS.eq q1 ?_
  (refine V0 ?_; with_reducible repeat' first|exact trivial|intro h|refine aO ?_|refine eO ?_|apply jO)
  all_goals try exact oF
  rename_i r
  refine wloop mxd (ι := { k : Nat // k ≤ O.length }) (fun k => [(2, .rop 2 (Gr g)), (3, .rop 1 (Tr t)), (8, InsS L), (9, .own r 1 0 L.length), (37, IS O), (38, I O.length), (39, I k.1)]) (fun k => (r, 1, (V k.1).map I) :: H) (fun k => O.length - k.1) ⟨0, by simp⟩ (by simp [E2]) (by simp [hV0]) ?_
  rintro ⟨k, hk⟩
  rcases nL k O.length with hlt | hge
  ·have hm := hOm _ (gM hlt)
   obtain ⟨j, hj⟩ : ∃ j : Nat, O[k] = j := ⟨O[k].toNat, by omega⟩
   rw [hj] at hm
   have hjl : j < L.length := by omega
   have hv := hVs k j hlt hj hjl
   have hvl := hVl k
   have hc := hva L[j] (V k) hvl.symm
   clear hVs
   (refine V1 (jO hj (jO @List.length_map.{0,0} hvl)) ?_; with_reducible repeat' first|exact trivial|intro h|refine aO ?_|refine eO ?_|apply jO)
   all_goals try exact oF
   refine callS.borA hc (.cons .refl (.cons .refl (.cons .refl (.cons (bor_IS hget_new hvl) .nil)))) rfl ?_
   (refine V1 (jO hj (jO @List.length_map.{0,0} hvl)) ?_; with_reducible repeat' first|exact trivial|intro h|refine aO ?_|refine eO ?_|apply jO)
   all_goals try exact oF
   refine nx ⟨k + 1, by omega⟩ (by simp; omega) (by simp [E2]) ?_
   show _ = (r, 1, (V (k + 1)).map I) :: H
   rw [hv, List.map_set]
  ·obtain rfl : k = O.length := by omega
   (refine V0 ?_; with_reducible repeat' first|exact trivial|intro h|refine aO ?_|refine eO ?_|apply jO)
   all_goals try exact oF
   exact ⟨_, ⟨r, by rw [hVl], rfl⟩, rfl⟩
 ·have hrl : runL g t = [] := by unfold runL; rw [if_neg hrb]
  have hrf : runB g t = false := by simpa using hrb
  rw [hrl, hrf]
  simp only [runB, Bool.and_eq_true, not_and, Bool.not_eq_true] at hrb
  have h0 : Gc 9 [Gr g, Tr t] H (fun v H' => v = .tup [.val (.slice none 0 0), B false] ∧ H' = H) := by
   generalize ordL (tabI g t) = O at *
   generalize ordB (tabI g t) = ob at *
   refine gstart mxd i9 rfl (by simp) ?_; refine X0 ?_
   (refine V0 ?_; with_reducible repeat' first|exact trivial|intro h|refine aO ?_|refine eO ?_|apply jO)
   refine callS.eq q2 ?_
   rcases bC ob with hob | hob
   ·(refine V1 hob ?_; with_reducible repeat' first|exact trivial|intro h|refine aO ?_|refine eO ?_|apply jO)
   (refine V1 hob ?_; with_reducible repeat' first|exact trivial|intro h|refine aO ?_|refine eO ?_|apply jO)
   refine callS.eq q3 ?_
   rcases bC (staS g) with hs | hs
   ·(refine V1 hs ?_; with_reducible repeat' first|exact trivial|intro h|refine aO ?_|refine eO ?_|apply jO)
   (refine V1 hs ?_; with_reducible repeat' first|exact trivial|intro h|refine aO ?_|refine eO ?_|apply jO)
   refine callS.eq q4 ?_
   rcases bC (treeOf g t (symN g t 0)) with ht | ht
   ·(refine V1 ht ?_; with_reducible repeat' first|exact trivial|intro h|refine aO ?_|refine eO ?_|apply jO)
   ·have := hrb hs ht
    rw [hob] at this
    cases this
  refine h0.fr ?_
  rintro v H' ⟨rfl, rfl⟩
  exact ⟨_, _, FR.trans (FR.addv (r := vname H') (sz := 1) (vname_odd _) (vname_new _)) (FR.sub (.tup (.cons (Bor.virt (r := vname H') (sz := 1)) (.cons .refl .nil)))), _, ⟨vname H', rfl, rfl⟩, rfl⟩
theorem q6 (g : Gram) (t : List Nod) (hg : smGr g) (ho : okGr g) (hl : t.length ≤ 1048576) (hk : ∀ x ∈ t, x.kids.length ≤ 1048576) : Pu 6 [Gr g, Tr t] (· = .tup [IS (runL g t), B (runB g t)]) :=
 Pure.bor ((o6 g t hg ho hl hk []).mono fun v H' ⟨H1, ⟨r, h1, h2⟩, h3⟩ => by
  subst h1; subst h2; subst h3
  exact .tup (.cons (bor_IS hget_new rfl) (.cons .refl .nil)))
theorem q9 (g : Gram) (t : List Nod) (hg : smGr g) (ho : okGr g) (hl : t.length ≤ 1048576) (hk : ∀ x ∈ t, x.kids.length ≤ 1048576) : Pu 9 [Gr g, Tr t] (· = .tup [IS (runL g t), B (runB g t)]) :=
 Pure.bor ((o9 g t hg ho hl hk []).mono fun v H' ⟨H1, ⟨r, h1, h2⟩, h3⟩ => by
  subst h1; subst h2; subst h3
  exact .tup (.cons (bor_IS hget_new rfl) (.cons .refl .nil)))
theorem w3 (g : Gram) (t : List Nod) (hg : okGr g) (ht : ∀ x ∈ t, x.rule.size ≤ maxLen) : Pu 3 [Gr g, Tr t] (· = B true) := by
 refine gstart mxd i3 rfl (by simp) ?_; refine X0 ?_
 refine callS.eq (w4 g _ (by omega) (by omega) hg) ?_
 (refine R0 ?_; with_reducible repeat' first|exact trivial|intro h|refine aO ?_|refine eO ?_|apply jO)
 have h1 := szv_nn h
 have hs := smGr_of (g := g) (by omega)
 have hcg := ctGr g
 rw [szv_pos h1]
 refine callS.eq (w5 t _ (by omega) (by omega) ht) ?_
 (refine R0 ?_; with_reducible repeat' first|exact trivial|intro h|refine aO ?_|refine eO ?_|apply jO)
 have hb := szTr h (by omega)
 have hm := mkEnd_small h (by omega)
 have hme := mkEnd_le 1 t
 have hLl : (runL g t).length ≤ 16777216 := by
  unfold runL
  split
  ·rw [runV_len]; exact insL_len hs t
  ·simp
 have q1 := q6 g t hs hg hb.1 hb.2
 have q2 := q9 g t hs hg hb.1 hb.2
 have q3 := o9 g t hs hg hb.1 hb.2
 generalize runB g t = bb at *
 generalize runL g t = L at *
 refine callS.eq (w7 g hs) ?_
 (refine R0 ?_; with_reducible repeat' first|exact trivial|intro h|refine aO ?_|refine eO ?_|apply jO)
 refine callS.eq (w8 t hb.1 hb.2) ?_
 (refine R0 ?_; with_reducible repeat' first|exact trivial|intro h|refine aO ?_|refine eO ?_|apply jO)
 refine callS.eq q1 ?_
 (refine R0 ?_; with_reducible repeat' first|exact trivial|intro h|refine aO ?_|refine eO ?_|apply jO)
 refine callS.of (o7 g hs _) ?_
 rintro v H' ⟨rs, rr, hrr, rfl, rfl⟩ -
 (refine V1 hrr ?_; with_reducible repeat' first|exact trivial|intro h|refine aO ?_|refine eO ?_|apply jO)
 refine callS.of (o8 t hb.1 hb.2 _) ?_
 rintro v H' ⟨rt, rfl, rfl⟩ hn
 replace hn := neH_of hn
 (replace hn := hn; simp only [VN] at hn)
 (refine V1 hn ?_; with_reducible repeat' first|exact trivial|intro h|refine aO ?_|refine eO ?_|apply jO)
 refine callS.lend q3 (.cons (bor_Gr (rs := rs) (rr := rr) (by simp [hget_c, hn]) (by simp [hget_c, hn]) rfl rfl) (.cons (bor_Tr hget_new rfl) .nil)) (by rintro v H1 ⟨r, rfl, rfl⟩; simp [noD, noDL, noDH, noDL_eq]) ?_
 rintro v H1 ⟨rg, rfl, rfl⟩ hng
 simp only [List.cons_append, List.nil_append] at hng ⊢
 replace hng := neH_of hng
 (replace hng := hng; simp only [VN] at hng)
 (refine V1 hng ?_; with_reducible repeat' first|exact trivial|intro h|refine aO ?_|refine eO ?_|apply jO)
 refine callS.borA (w10 L L) (.cons (bor_IS hget_new rfl) (.cons .refl .nil)) rfl ?_
 (refine V1 hng ?_; with_reducible repeat' first|exact trivial|intro h|refine aO ?_|refine eO ?_|apply jO)
 refine callS.eq (w7 g hs) ?_
 (refine V1 hng ?_; with_reducible repeat' first|exact trivial|intro h|refine aO ?_|refine eO ?_|apply jO)
 refine callS.borA (w11 g g) (.cons (bor_Gr (rs := rs) (rr := rr) (by simp [hget_c, hng]) (by simp [hget_c, hng]) rfl rfl) (.cons .refl .nil)) rfl ?_
 (refine V1 hng ?_; with_reducible repeat' first|exact trivial|intro h|refine aO ?_|refine eO ?_|apply jO)
 refine callS.eq (w8 t hb.1 hb.2) ?_
 (refine V1 hng ?_; with_reducible repeat' first|exact trivial|intro h|refine aO ?_|refine eO ?_|apply jO)
 refine callS.borA (w12 t t) (.cons (bor_Tr (by simp [hget_c, hng]) rfl) (.cons .refl .nil)) rfl ?_
 (refine V1 hng ?_; with_reducible repeat' first|exact trivial|intro h|refine aO ?_|refine eO ?_|apply jO)
 refine callS.of (w13 rs rr g.syms.length g.rules.length 1 g _ (by simp [hng]) (by simp [hget_c, hng]) (by simp [hget_c, hng]) rfl rfl (by omega) (by omega)) ?_
 rintro v H' ⟨rfl, rfl⟩ -
 (refine V1 hng ?_; with_reducible repeat' first|exact trivial|intro h|refine aO ?_|refine eO ?_|apply jO)
 refine callS.of (w14 rt t.length _ t _ (by simp [hget_c, hng]) rfl (by omega) (by have := mkEnd_from (1 + smw wSym g.syms + smw wR g.rules) t; omega)) ?_
 rintro v H' ⟨rfl, rfl⟩ -
 have hmf := mkEnd_from (1 + smw wSym g.syms + smw wR g.rules) t
 have hmk : ¬ (mkEnd (1 + smw wSym g.syms + smw wR g.rules) t < 0) := by omega
 (refine V1 (jO hng hmk) ?_; with_reducible repeat' first|exact trivial|intro h|refine aO ?_|refine eO ?_|apply jO)
 refine callS.borA (w10 L L) (.cons (bor_IS hget_new rfl) (.cons .refl .nil)) rfl ?_
 (refine V1 hng ?_; with_reducible repeat' first|exact trivial|intro h|refine aO ?_|refine eO ?_|apply jO)
 refine callS.of (w15 rg L.length 1 L _ hget_new rfl (by omega) (by omega)) ?_
 rintro v H' ⟨rfl, rfl⟩ -
 rw [hset_new]
 (refine V1 hng ?_; with_reducible repeat' first|exact trivial|intro h|refine aO ?_|refine eO ?_|apply jO)
 refine callS.borA (w16 L.length 1 (by omega) (by omega)) (.cons (bor_IS hget_new (upFrom_len _ _)) (.cons .refl .nil)) rfl ?_
 have hmq : ¬ ((1 : Int) + L.length < 0) := by omega
 (refine V1 (jO hng hmq) ?_; with_reducible repeat' first|exact trivial|intro h|refine aO ?_|refine eO ?_|apply jO)
 refine callS.eq (w7 g hs) ?_
 (refine V1 hng ?_; with_reducible repeat' first|exact trivial|intro h|refine aO ?_|refine eO ?_|apply jO)
 refine callS.eq (w8 t hb.1 hb.2) ?_
 (refine V1 hng ?_; with_reducible repeat' first|exact trivial|intro h|refine aO ?_|refine eO ?_|apply jO)
 refine callS.eq q2 ?_
 (refine V1 hng ?_; with_reducible repeat' first|exact trivial|intro h|refine aO ?_|refine eO ?_|apply jO)
 refine callS.eq (w10 L L) ?_
 (refine V1 hng ?_; with_reducible repeat' first|exact trivial|intro h|refine aO ?_|refine eO ?_|apply jO)
 refine callS.borA (w16 L.length 1 (by omega) (by omega)) (.cons (bor_IS hget_new (upFrom_len _ _)) (.cons .refl .nil)) rfl ?_
 (refine V1 (jO hng hmq) ?_; with_reducible repeat' first|exact trivial|intro h|refine aO ?_|refine eO ?_|apply jO)
end Go.Proofs.YtlcenahinhonfaaGreat
namespace Go.Proofs.YtlcenahinhonfaaGreat
open Go.ChangeShapes Go.WideShapes Go.ChangeAt Go.RowKit Go.Gh
theorem Tryz.own : ownKnob Tryz.prog.godebug = none := by kernel_rfl
theorem Tryz.laidOut : laidOutB Tryz.prog = true := by kernel_rfl
theorem Tryz.mapsRowed : mapsRowed Tryz.prog = true := by kernel_rfl
def Tryz.R : TypeId → Option (GV → Prop) := fun t => if t = 192 then some ExQ else none
set_option maxRecDepth 100000 in
theorem Tryz.knot {H : Type} {enc : TypeId × Value → H} {W : World} {spare : Nat → Bool} {held : Bool} : ∀ f t Q cs x, Tryz.R t = some Q → DataW.trod enc Tryz.prog W 0 spare held f t cs = some x → Lf W [.pr Q] cs :=
 Go.Gh.knot (tE := 194) (ts := ExT) (ag := true) 8 (by kernel_rfl) (by kernel_rfl) (by kernel_rfl) (by decide) (fun g h => exQ h)
end Go.Proofs.YtlcenahinhonfaaGreat
