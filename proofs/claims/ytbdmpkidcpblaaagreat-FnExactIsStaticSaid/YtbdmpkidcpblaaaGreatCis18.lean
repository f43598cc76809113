/- The laws FnExactIsSolution and FnExactIsStatic return true whatever the input, and the input reads behind the call as before. No condition. -/
import Derived.Test.YtbdmpkidcpblaaaGreatCis17
namespace Go.Proofs.YtbdmpkidcpblaaaGreat
open Go.Gh
open Nat (reduceEqDiff reduceLeDiff reduceAdd reduceLT)
open Int (reduceNe)
set_option maxRecDepth 20000
set_option linter.unusedSimpArgs false
set_option linter.unusedVariables false
theorem q119 (t : List Nod) (i : Int) (hl : t.length ≤ 1048576) (hx : ∀ x ∈ t, x.kids.length ≤ 1048576) : Pure Tryz.prog 119 [Tr t, I i] (· = IS (nodeIds t i)) :=
  Pure.bor ((o119 t i hl hx []).mono fun v H' ⟨H1, ⟨r, h1, h2⟩, h3⟩ => by
    subst h1; subst h2; subst h3
    exact bor_IS hget_new rfl)
theorem q192 (t : List Nod) (i : Int) (hl : t.length ≤ 1048576) (hx : ∀ x ∈ t, x.kids.length ≤ 1048576) : Pure Tryz.prog 192 [Tr t, I i] (· = IS (nodeIds t i)) :=
  Pure.bor ((o192 t i hl hx []).mono fun v H' ⟨H1, ⟨r, h1, h2⟩, h3⟩ => by
    subst h1; subst h2; subst h3
    exact bor_IS hget_new rfl)
set_option maxHeartbeats 4000000 in
theorem w118 (g : Gram) (t : List Nod) (i : Nat) (vs : List Int) (hg : smGr g) (hl : t.length ≤ 1048576) (ht : treeOf g t (symN g t 0) = true) (hi : i < t.length) (hk : t[i].kids.length ≤ 1048576) (hv : (insL g t).length = vs.length) :
    Pure Tryz.prog 118 [Gr g, Tr t, I i, InsS (insL g t), IS vs] (· = SltS (slL g t i (insL g t) vs)) := by
  have hkid := tree_kids ht hi
  have hin {j : Nat} (hj : j < t.length) {a : Att} (ha : a ∈ (fSym g.syms (symN g t j)).atts) := ixI_in (ins_in ht hj ha)
  have hslL : slL g t i (insL g t) vs = slA g t (insL g t) vs ((i : Int) :: t[i].kids) (t[i].kids.length + 1) := by unfold slL; rw [getD_lt hi]
  rw [hslL]
  generalize insL g t = L at *
  obtain ⟨F, hF⟩ : ∃ F : Nat → List Slo, ∀ n, F n = slA g t L vs ((i : Int) :: t[i].kids) n := ⟨_, fun _ => rfl⟩
  have hF0 : F 0 = [] := by rw [hF]; rfl
  have hFs : ∀ n, F (n + 1) = F n ++ slK g t L vs n (((i : Int) :: t[i].kids).getD n 0) := fun n => by rw [hF, hF]; rfl
  rw [← hF]
  clear hF
  refine Pure.bor ?_
  refine gstart mxd i118 rfl (by simp) ?_; refine X0 ?_
  (refine V0 ?_; with_reducible repeat' first | exact trivial | intro h | refine aO ?_ | refine eO ?_ | apply And.intro)
  rename_i r0
  have hLb : ∀ n, n ≤ t[i].kids.length + 1 → (F n).length ≤ n * 1048576 := by
    intro n
    induction n with
    | zero => intro _; simp [hF0]
    | succ n ih =>
      intro hn
      have h1 := smSy_f hg (symN g t (((i : Int) :: t[i].kids).getD n 0))
      unfold smSy at h1
      rw [hFs, List.length_append]
      simp only [slK, List.length_map]
      have := ih (by omega)
      omega
  refine ploop mxd (ι := { x : Nat × Nat // x.2 ≤ t[i].kids.length + 1 }) (fun x => [(2, I i), (3, InsS L), (4, IS vs), (5, .rop 2 (Gr g)), (6, .rop 1 (Tr t)), (11, .own x.1.1 3 0 (F x.1.2).length), (12, I x.1.2)]) (fun x => [(x.1.1, 3, (F x.1.2).map Slt)]) (fun x => t[i].kids.length + 1 - x.1.2) ⟨(r0, 0), by simp⟩ (by simp [E2, hF0]) (by simp [subH, hget, names, hF0]) ?_
  rintro ⟨⟨q, n⟩, hn⟩ -
  dsimp only at hn ⊢
  rcases Nat.lt_or_ge n (t[i].kids.length + 1) with hlt | hge
  · have hbl := hLb n (by omega)
    have hn16 : n * 1048576 ≤ 1099512676352 := by omega
    by_cases hn0 : n = 0
    · have hjl := hi
      have hat : ((i : Int) :: t[i].kids).getD n 0 = (i : Int) := by subst hn0; rfl
      have hFn := hFs n
      rw [hat] at hFn
      unfold slK at hFn
      replace hin := fun {a : Att} => hin hjl (a := a)
      have hsm := smSy_f hg (symN g t i)
      unfold smSy at hsm
      have h00 : ((0 : Int) < n) = False := eq_false (by omega)
      (refine V1 (jO h00 (jO @gt_iff_lt.{0} @decide_false)) ?_; with_reducible repeat' first | exact trivial | intro h | refine aO ?_ | refine eO ?_ | apply And.intro)
      all_goals try (exfalso; omega)
      (refine V0 ?_; with_reducible repeat' first | exact trivial | intro h | refine aO ?_ | refine eO ?_ | apply And.intro)
      refine callS.eq (w115 g t i hg) ?_
      (refine V0 ?_; with_reducible repeat' first | exact trivial | intro h | refine aO ?_ | refine eO ?_ | apply And.intro)
      refine callS.eq (w91 g _ hg) ?_
      generalize fSym g.syms (symN g t i) = s at *
      obtain ⟨M, hM⟩ : ∃ M : List Slo, M = s.atts.map fun a => ⟨n, a.name, slV t L vs i a⟩ := ⟨_, rfl⟩
      rw [← hM] at hFn
      have hMl : M.length = s.atts.length := by rw [hM]; simp
      (refine V0 ?_; with_reducible repeat' first | exact trivial | intro h | refine aO ?_ | refine eO ?_ | apply And.intro)
      refine ploop mxd (ι := { x : Nat × Nat // x.2 ≤ s.atts.length }) (fun x => [(2, I i), (3, InsS L), (4, IS vs), (5, .rop 2 (Gr g)), (6, .rop 1 (Tr t)), (11, .own x.1.1 3 0 ((F n).length + x.1.2)), (12, I n), (13, I i), (14, .rop 2 (Sy s)), (16, I x.1.2)]) (fun x => [(x.1.1, 3, (F n ++ M.take x.1.2).map Slt)]) (fun x => s.atts.length - x.1.2) ⟨(q, 0), by simp⟩ (by simp [E2]) (by simp [subH, hget, names]) ?_
      rintro ⟨⟨q, k⟩, hk2⟩ hn2
      dsimp only at hk2 hn2 ⊢
      rcases Nat.lt_or_ge k s.atts.length with hlt2 | hge2
      · have hx := hin (List.getElem_mem hlt2)
        obtain ⟨b, hb⟩ : ∃ b : Nat, ixI L (t[i].id, s.atts[k].name) = b := ⟨(ixI L (t[i].id, s.atts[k].name)).toNat, by omega⟩
        rw [hb] at hx
        have hb2 : b < vs.length := by omega
        have hsv : slV t L vs i s.atts[k] = vs[b] := by unfold slV; rw [Int.toNat_natCast, getD_lt hjl, hb, Int.toNat_natCast, getD_lt hb2]
        have hMk : M[k]'(by omega) = ⟨n, s.atts[k].name, vs[b]⟩ := by simp only [hM, List.getElem_map, hsv]
        (refine V0 ?_; with_reducible repeat' first | exact trivial | intro h | refine aO ?_ | refine eO ?_ | apply And.intro)
        all_goals try (exfalso; omega)
        refine callS.eq (w64 L (t[i].id, s.atts[k].name)) ?_
        rw [hb]
        (refine V1 (jO @List.length_append.{0} (jO @List.length_singleton.{0} (jO @List.length_map.{0,0} (jO @List.length_take.{0} (jO hMl @maxLv))))) ?_; with_reducible repeat' first | exact trivial | intro h | refine aO ?_ | refine eO ?_ | apply And.intro)
        all_goals try (exfalso; omega)
        rename_i q2 _ q3
        have e := takeApp3 Slt (F n) M k (by omega) ((F n).length + k) (by simp; omega)
        rw [hMk] at e
        refine px ⟨(q3, k + 1), by omega⟩ (by simp <;> omega) (by simp [E2] <;> omega) ?_
        show subH _ [(q3, 3, (F n ++ M.take (k + 1)).map Slt)]
        rw [← e]
        exact (by repeat' (first | exact trivial | (refine And.intro (by simp only [hget_c, *, if_true, if_false]; try rfl) (And.intro (by simp [names_cons, names_nil, *]) ?_))))
      · obtain rfl : k = s.atts.length := by omega
        rw [List.take_of_length_le (by omega), ← hFn]
        have hFl : (F (n + 1)).length = (F n).length + s.atts.length := by rw [hFn, List.length_append, hMl]
        (refine V0 ?_; with_reducible repeat' first | exact trivial | intro h | refine aO ?_ | refine eO ?_ | apply And.intro)
        all_goals try (exfalso; omega)
        refine px ⟨(q, n + 1), by omega⟩ (by simp <;> omega) (by simp [E2, hFl]) ?_
        show subH _ [(q, 3, (F (n + 1)).map Slt)]
        exact (by repeat' (first | exact trivial | (refine And.intro (by simp only [hget_c, *, if_true, if_false]; try rfl) (And.intro (by simp [names_cons, names_nil, *]) ?_))))
    · obtain ⟨m, rfl⟩ : ∃ m, n = m + 1 := ⟨n - 1, by omega⟩
      have hm : m < t[i].kids.length := by omega
      have hc := hkid _ (List.getElem_mem hm)
      obtain ⟨j, hj⟩ : ∃ j : Nat, t[i].kids[m] = j := ⟨t[i].kids[m].toNat, by omega⟩
      have hjl : j < t.length := by omega
      have hat : ((i : Int) :: t[i].kids).getD (m + 1) 0 = (j : Int) := by rw [List.getD_cons_succ, getD_lt hm, hj]
      have hFn := hFs (m + 1)
      rw [hat] at hFn
      unfold slK at hFn
      replace hin := fun {a : Att} => hin hjl (a := a)
      have hsm := smSy_f hg (symN g t j)
      unfold smSy at hsm
      have h00 : ((0 : Int) < ((m + 1 : Nat) : Int)) = True := eq_true (by omega)
      have hm1 : ((m + 1 : Nat) : Int) - 1 = m := by omega
      (refine V1 (jO h00 (jO hm1 (jO @Int.toNat_natCast (jO @gt_iff_lt.{0} @decide_true)))) ?_; with_reducible repeat' first | exact trivial | intro h | refine aO ?_ | refine eO ?_ | apply And.intro)
      all_goals try (exfalso; omega)
      rw [hj]
      generalize hnm : m + 1 = n at *
      (refine V0 ?_; with_reducible repeat' first | exact trivial | intro h | refine aO ?_ | refine eO ?_ | apply And.intro)
      refine callS.eq (w115 g t j hg) ?_
      (refine V0 ?_; with_reducible repeat' first | exact trivial | intro h | refine aO ?_ | refine eO ?_ | apply And.intro)
      refine callS.eq (w91 g _ hg) ?_
      generalize fSym g.syms (symN g t j) = s at *
      obtain ⟨M, hM⟩ : ∃ M : List Slo, M = s.atts.map fun a => ⟨n, a.name, slV t L vs j a⟩ := ⟨_, rfl⟩
      rw [← hM] at hFn
      have hMl : M.length = s.atts.length := by rw [hM]; simp
      (refine V0 ?_; with_reducible repeat' first | exact trivial | intro h | refine aO ?_ | refine eO ?_ | apply And.intro)
      refine ploop mxd (ι := { x : Nat × Nat // x.2 ≤ s.atts.length }) (fun x => [(2, I i), (3, InsS L), (4, IS vs), (5, .rop 2 (Gr g)), (6, .rop 1 (Tr t)), (11, .own x.1.1 3 0 ((F n).length + x.1.2)), (12, I n), (13, I j), (14, .rop 2 (Sy s)), (16, I x.1.2)]) (fun x => [(x.1.1, 3, (F n ++ M.take x.1.2).map Slt)]) (fun x => s.atts.length - x.1.2) ⟨(q, 0), by simp⟩ (by simp [E2]) (by simp [subH, hget, names]) ?_
      rintro ⟨⟨q, k⟩, hk2⟩ hn2
      dsimp only at hk2 hn2 ⊢
      rcases Nat.lt_or_ge k s.atts.length with hlt2 | hge2
      · have hx := hin (List.getElem_mem hlt2)
        obtain ⟨b, hb⟩ : ∃ b : Nat, ixI L (t[j].id, s.atts[k].name) = b := ⟨(ixI L (t[j].id, s.atts[k].name)).toNat, by omega⟩
        rw [hb] at hx
        have hb2 : b < vs.length := by omega
        have hsv : slV t L vs j s.atts[k] = vs[b] := by unfold slV; rw [Int.toNat_natCast, getD_lt hjl, hb, Int.toNat_natCast, getD_lt hb2]
        have hMk : M[k]'(by omega) = ⟨n, s.atts[k].name, vs[b]⟩ := by simp only [hM, List.getElem_map, hsv]
        (refine V0 ?_; with_reducible repeat' first | exact trivial | intro h | refine aO ?_ | refine eO ?_ | apply And.intro)
        all_goals try (exfalso; omega)
        refine callS.eq (w64 L (t[j].id, s.atts[k].name)) ?_
        rw [hb]
        (refine V1 (jO @List.length_append.{0} (jO @List.length_singleton.{0} (jO @List.length_map.{0,0} (jO @List.length_take.{0} (jO hMl @maxLv))))) ?_; with_reducible repeat' first | exact trivial | intro h | refine aO ?_ | refine eO ?_ | apply And.intro)
        all_goals try (exfalso; omega)
        rename_i q2 _ q3
        have e := takeApp3 Slt (F n) M k (by omega) ((F n).length + k) (by simp; omega)
        rw [hMk] at e
        refine px ⟨(q3, k + 1), by omega⟩ (by simp <;> omega) (by simp [E2] <;> omega) ?_
        show subH _ [(q3, 3, (F n ++ M.take (k + 1)).map Slt)]
        rw [← e]
        exact (by repeat' (first | exact trivial | (refine And.intro (by simp only [hget_c, *, if_true, if_false]; try rfl) (And.intro (by simp [names_cons, names_nil, *]) ?_))))
      · obtain rfl : k = s.atts.length := by omega
        rw [List.take_of_length_le (by omega), ← hFn]
        have hFl : (F (n + 1)).length = (F n).length + s.atts.length := by rw [hFn, List.length_append, hMl]
        (refine V0 ?_; with_reducible repeat' first | exact trivial | intro h | refine aO ?_ | refine eO ?_ | apply And.intro)
        all_goals try (exfalso; omega)
        refine px ⟨(q, n + 1), by omega⟩ (by simp <;> omega) (by simp [E2, hFl]) ?_
        show subH _ [(q, 3, (F (n + 1)).map Slt)]
        exact (by repeat' (first | exact trivial | (refine And.intro (by simp only [hget_c, *, if_true, if_false]; try rfl) (And.intro (by simp [names_cons, names_nil, *]) ?_))))
  · obtain rfl : n = t[i].kids.length + 1 := by omega
    (refine V0 ?_; with_reducible repeat' first | exact trivial | intro h | refine aO ?_ | refine eO ?_ | apply And.intro)
    all_goals try (exfalso; omega)
    exact bor_Slt hget_new rfl
theorem w189 (t : List Oc) (f : Nat) (cs : List GV) (p : Oc → Bool) (hp : ∀ x ∈ t, Pure Tryz.prog f (Ins x :: cs) (· = B (p x))) :
    Pure Tryz.prog 189 [InsS t, .clo f cs] (· = I (ixOf p t)) := by
  refine GCalls.lenA fun hl => ?_
  have hlen := hl.1.1
  simp only [List.length_map, maxL] at hlen
  refine gstart mxd i189 rfl (by simp) ?_; refine X0 ?_
  (refine V0 ?_; with_reducible repeat' first | exact trivial | intro h | refine aO ?_ | refine eO ?_ | apply And.intro)
  refine wloop mxd (ι := { i : Nat // i ≤ t.length ∧ ∀ y ∈ t.take i, p y = false }) (fun i => [(0, InsS t), (1, .clo f cs), (7, I t.length), (8, I i.1)]) (fun _ => []) (fun i => t.length - i.1) ⟨0, by simp⟩ (by simp [E2]) rfl ?_
  rintro ⟨i, hi, hn⟩
  rcases Nat.lt_or_ge i t.length with hlt | hge
  · (refine V1 @XE ?_; with_reducible repeat' first | exact trivial | intro h | refine aO ?_ | refine eO ?_ | apply And.intro)
    all_goals try (exfalso; omega)
    refine callS.eq (hp t[i] (List.getElem_mem hlt)) ?_
    by_cases hb : p t[i] = true
    · have e := ixOf_hit hlt hb hn
      rw [e]
      (refine V1 hb ?_; with_reducible repeat' first | exact trivial | intro h | refine aO ?_ | refine eO ?_ | apply And.intro)
    · have hb' : p t[i] = false := by simpa using hb
      (refine V1 hb' ?_; with_reducible repeat' first | exact trivial | intro h | refine aO ?_ | refine eO ?_ | apply And.intro)
      exact nx ⟨i + 1, by omega, take_step hlt hb' hn⟩ (by simp; omega) (by simp [E2]) rfl
  · obtain rfl : i = t.length := by omega
    rw [List.take_length] at hn
    rw [ixOf_none hn]
    (refine V0 ?_; with_reducible repeat' first | exact trivial | intro h | refine aO ?_ | refine eO ?_ | apply And.intro)
    all_goals first | (exfalso; omega) | skip
theorem w120 (t : List Oc) (f : Nat) (cs : List GV) (p : Oc → Bool) (hp : ∀ x ∈ t, Pure Tryz.prog f (Ins x :: cs) (· = B (p x))) :
    Pure Tryz.prog 120 [InsS t, .clo f cs] (· = B (t.any p)) := by
  refine gstart mxd i120 rfl (by simp) ?_; refine X0 ?_
  refine callS.eq (w189 t f cs p hp) ?_
  (refine R0 ?_; with_reducible repeat' first | exact trivial | intro h | refine aO ?_ | refine eO ?_ | apply And.intro)
  rw [← any_ix]
set_option maxHeartbeats 4000000 in
theorem w58 (g : Gram) (t : List Nod) (x : Oc) (vs : List Int) (hg : smGr g) (ho : okGr g) (hl : t.length ≤ 1048576) (hkk : ∀ x ∈ t, x.kids.length ≤ 1048576) (ht : treeOf g t (symN g t 0) = true) (hv : (insL g t).length = vs.length) :
    Pure Tryz.prog 58 [Gr g, Tr t, Ins x, InsS (insL g t), IS vs] (· = I (vaX g t (insL g t) vs x)) := by
  unfold vaX evV
  refine gstart mxd i58 rfl (by simp) ?_; refine X0 ?_
  (refine V0 ?_; with_reducible repeat' first | exact trivial | intro h | refine aO ?_ | refine eO ?_ | apply And.intro)
  refine callS.eq (w116 g t x hg hl) ?_
  rcases (Bool.eq_false_or_eq_true (defB g t x)).symm with hd | hd
  · (refine V1 hd ?_; with_reducible repeat' first | exact trivial | intro h | refine aO ?_ | refine eO ?_ | apply And.intro)
    all_goals try simp [hd]
  · obtain ⟨j, hj, hjl⟩ := defO_in hd
    have hk := tree_kl ht hjl
    have hids := tree_ids ht hjl
    have hoe := defE_ok ho t x
    have hwe := defE_small hg t x
    have hsl := w118 g t j vs hg hl ht hjl (by omega) hv
    simp only [hj, hd, if_true, Int.toNat_natCast, getD_lt hjl]
    generalize defE g t x = e at *
    generalize slL g t j (insL g t) vs = sl at *
    (refine V0 ?_; with_reducible repeat' first | exact trivial | intro h | refine aO ?_ | refine eO ?_ | apply And.intro)
    all_goals try (exfalso; omega)
    refine callS.eq hsl ?_
    (refine V0 ?_; with_reducible repeat' first | exact trivial | intro h | refine aO ?_ | refine eO ?_ | apply And.intro)
    all_goals try (exfalso; omega)
    refine callS.eq (q119 t j hl hkk) ?_
    (refine V0 ?_; with_reducible repeat' first | exact trivial | intro h | refine aO ?_ | refine eO ?_ | apply And.intro)
    rw [← Ex_eq]
    refine callS.eq (w117 e sl _ _ hoe hwe hids) ?_
    (refine V0 ?_; with_reducible repeat' first | exact trivial | intro h | refine aO ?_ | refine eO ?_ | apply And.intro)
set_option maxHeartbeats 4000000 in
theorem w24 (g : Gram) (t : List Nod) (vs : List Int) (hg : smGr g) (ho : okGr g) (hl : t.length ≤ 1048576) (hkk : ∀ x ∈ t, x.kids.length ≤ 1048576) (hvl : vs.length ≤ 1048576) :
    Pure Tryz.prog 24 [Gr g, Tr t, IS vs] (· = B (solB g t vs)) := by
  have hqi := q57 g t hg hl hkk
  have hst := w22 g hg ho
  unfold solB
  by_cases h2 : 0 < (insL g t).length ∧ (insL g t).length = vs.length
  · obtain ⟨h2, h3⟩ := h2
    have htr := insL_tree h2
    have hva : ∀ x, Pure Tryz.prog 58 [Gr g, Tr t, Ins x, InsS (insL g t), IS vs] (· = I (vaX g t (insL g t) vs x)) := fun x => w58 g t x vs hg ho hl hkk htr h3
    generalize insL g t = L at *
    have hL0 : ((L.length : Int) = 0) = False := eq_false (by omega)
    have hL1 : ((L.length : Int) = vs.length) = True := eq_true (by omega)
    have h2' : 0 < vs.length := by omega
    simp only [h2', h3, decide_true, Bool.true_and]
    refine gstart mxd i24 rfl (by simp) ?_; refine X0 ?_
    (refine V0 ?_; with_reducible repeat' first | exact trivial | intro h | refine aO ?_ | refine eO ?_ | apply And.intro)
    refine callS.eq hqi ?_
    (refine V0 ?_; with_reducible repeat' first | exact trivial | intro h | refine aO ?_ | refine eO ?_ | apply And.intro)
    refine callS.eq hst ?_
    rcases (Bool.eq_false_or_eq_true (staS g)).symm with hb | hb
    · simp only [hb, Bool.false_and]
      (refine V0 ?_; with_reducible repeat' first | exact trivial | intro h | refine aO ?_ | refine eO ?_ | apply And.intro)
    simp only [hb, Bool.true_and]
    (refine V1 (jO hb (jO hL0 (jO hL1 (jO @decide_true @decide_false)))) ?_; with_reducible repeat' first | exact trivial | intro h | refine aO ?_ | refine eO ?_ | apply And.intro)
    all_goals try (exfalso; omega)
    obtain ⟨p, hp⟩ : ∃ p : Nat → Bool, ∀ i, p i = decide (vs.getD i 0 = vaX g t L vs (L.getD i (0, noS))) := ⟨_, fun _ => rfl⟩
    simp only [← hp]
    refine wloop mxd (ι := { i : Nat // i ≤ L.length ∧ ∀ k, k < i → p k = true }) (fun i => [(2, IS vs), (3, .rop 2 (Gr g)), (4, .rop 1 (Tr t)), (7, InsS L), (8, I i.1)]) (fun _ => []) (fun i => L.length - i.1) ⟨0, by simp⟩ (by simp [E2]) rfl ?_
    rintro ⟨i, hi, hn⟩
    rcases Nat.lt_or_ge i L.length with hlt | hge
    · have hiv : i < vs.length := by omega
      have hpi := hp i
      rw [getD_lt hlt, getD_lt hiv] at hpi
      (refine V0 ?_; with_reducible repeat' first | exact trivial | intro h | refine aO ?_ | refine eO ?_ | apply And.intro)
      all_goals try (exfalso; omega)
      refine callS.eq (hva L[i]) ?_
      by_cases hc : vs[i] = vaX g t L vs L[i]
      · have hc' := eq_true hc
        rw [decide_eq_true hc] at hpi
        (refine V1 (jO hc' @decide_true) ?_; with_reducible repeat' first | exact trivial | intro h | refine aO ?_ | refine eO ?_ | apply And.intro)
        exact nx ⟨i + 1, by omega, fun k hk => by
          by_cases e : k = i
          · rw [e]; exact hpi
          · exact hn k (by omega)⟩ (by simp; omega) (by simp [E2]) rfl
      · have hc' := eq_false hc
        rw [decide_eq_false hc] at hpi
        have hf : ((List.range vs.length).all fun i => p i) = false := by
          rw [List.all_eq_false]
          exact ⟨i, by rw [List.mem_range]; omega, by simp [hpi]⟩
        rw [hf]
        (refine V1 (jO hc' @decide_false) ?_; with_reducible repeat' first | exact trivial | intro h | refine aO ?_ | refine eO ?_ | apply And.intro)
    · obtain rfl : i = L.length := by omega
      have hf : ((List.range vs.length).all fun i => p i) = true := by
        rw [List.all_eq_true]
        exact fun k hk => hn k (by rw [List.mem_range] at hk; omega)
      rw [hf]
      (refine V0 ?_; with_reducible repeat' first | exact trivial | intro h | refine aO ?_ | refine eO ?_ | apply And.intro)
      all_goals try (exfalso; omega)
  · have hres : ((staS g && (decide (0 < (insL g t).length) && (decide ((insL g t).length = vs.length) && (List.range vs.length).all fun i => decide (vs.getD i 0 = vaX g t (insL g t) vs ((insL g t).getD i (0, noS)))))) : Bool) = false := by
      by_cases h4 : 0 < (insL g t).length
      · have h5 : ¬ (insL g t).length = vs.length := fun e => h2 ⟨h4, e⟩
        simp [h5]
      · simp [h4]
    rw [hres]
    generalize insL g t = L at *
    refine gstart mxd i24 rfl (by simp) ?_; refine X0 ?_
    (refine V0 ?_; with_reducible repeat' first | exact trivial | intro h | refine aO ?_ | refine eO ?_ | apply And.intro)
    refine callS.eq hqi ?_
    (refine V0 ?_; with_reducible repeat' first | exact trivial | intro h | refine aO ?_ | refine eO ?_ | apply And.intro)
    refine callS.eq hst ?_
    rcases (Bool.eq_false_or_eq_true (staS g)).symm with hb | hb
    · (refine V1 hb ?_; with_reducible repeat' first | exact trivial | intro h | refine aO ?_ | refine eO ?_ | apply And.intro)
    by_cases hL0 : L.length = 0
    · have hL0' : ((L.length : Int) = 0) = True := eq_true (by omega)
      (refine V1 (jO hb (jO hL0' @decide_true)) ?_; with_reducible repeat' first | exact trivial | intro h | refine aO ?_ | refine eO ?_ | apply And.intro)
      all_goals try (exfalso; omega)
    · have hL0' : ((L.length : Int) = 0) = False := eq_false (by omega)
      have hL1 : ((L.length : Int) = vs.length) = False := eq_false (by omega)
      (refine V1 (jO hb (jO hL0' (jO hL1 @decide_false))) ?_; with_reducible repeat' first | exact trivial | intro h | refine aO ?_ | refine eO ?_ | apply And.intro)
      all_goals try (exfalso; omega)
set_option maxHeartbeats 4000000 in
theorem w191 (g : Gram) (t : List Nod) (i : Nat) (vs : List Int) (hg : smGr g) (hl : t.length ≤ 1048576) (hkk : ∀ x ∈ t, x.kids.length ≤ 1048576) (ht : treeOf g t (symN g t 0) = true) (hi : i < t.length) (hv : (insL g t).length = vs.length) :
    Pure Tryz.prog 191 [Gr g, Tr t, I i, IS vs] (· = SltS (slL g t i (insL g t) vs)) := by
  have hqi := q74 g t hg hl hkk
  have hkid := tree_kids ht hi
  have hkl := tree_kl ht hi
  have hin {j : Nat} (hj : j < t.length) {a : Att} (ha : a ∈ (fSym g.syms (symN g t j)).atts) := ixI_in (ins_in ht hj ha)
  have hslL : slL g t i (insL g t) vs = slA g t (insL g t) vs ((i : Int) :: t[i].kids) (t[i].kids.length + 1) := by unfold slL; rw [getD_lt hi]
  rw [hslL]
  generalize insL g t = L at *
  have hks : ∀ n, ∀ h : n < ((i : Int) :: t[i].kids).length, ∃ j : Nat, ((i : Int) :: t[i].kids)[n] = j ∧ j < t.length := fun n h => by
    have hm := List.getElem_mem h
    rcases List.mem_cons.1 hm with e | e
    · exact ⟨i, e, hi⟩
    · have := hkid _ e
      exact ⟨(((i : Int) :: t[i].kids)[n]).toNat, by omega, by omega⟩
  have hlc : ((i : Int) :: t[i].kids).length = t[i].kids.length + 1 := rfl
  have hke : (GV.val (.int .i64 (i : Int))) :: t[i].kids.map I = ((i : Int) :: t[i].kids).map I := rfl
  obtain ⟨F, hF⟩ : ∃ F : Nat → List Slo, ∀ n, F n = slA g t L vs ((i : Int) :: t[i].kids) n := ⟨_, fun _ => rfl⟩
  have hF0 : F 0 = [] := by rw [hF]; rfl
  have hFs : ∀ n, F (n + 1) = F n ++ slK g t L vs n (((i : Int) :: t[i].kids).getD n 0) := fun n => by rw [hF, hF]; rfl
  have hLb : ∀ n, (F n).length ≤ n * 1048576 := fun n => by rw [hF]; exact slA_len hg n
  rw [← hF]
  clear hF
  refine Pure.bor ?_
  refine gstart mxd i191 rfl (by simp) ?_; refine X0 ?_
  (refine V0 ?_; with_reducible repeat' first | exact trivial | intro h | refine aO ?_ | refine eO ?_ | apply And.intro)
  refine callS.eq hqi ?_
  (refine V0 ?_; with_reducible repeat' first | exact trivial | intro h | refine aO ?_ | refine eO ?_ | apply And.intro)
  rename_i r0
  refine callS.eq (w201 t i) ?_
  have hii : (0 ≤ (i : Int) ∧ (i : Int) < t.length) = True := eq_true (by omega)
  have hvv : ((vs.length : Int) = (L.length : Int)) = True := eq_true (by omega)
  (refine V1 (jO hii (jO hvv @decide_true)) ?_; with_reducible repeat' first | exact trivial | intro h | refine aO ?_ | refine eO ?_ | apply And.intro)
  all_goals try (exfalso; omega)
  rename_i r2 _ r3
  rw [hke]
  generalize hksd : ((i : Int) :: t[i].kids) = ks at *
  generalize hkn : t[i].kids.length = m at *
  refine ploop mxd (ι := { x : Nat × Nat // x.2 ≤ m + 1 }) (fun x => [(3, IS vs), (4, .rop 2 (Gr g)), (5, .rop 1 (Tr t)), (9, InsS L), (10, .own x.1.1 3 0 (F x.1.2).length), (43, .own r3 1 0 (m + 1)), (44, I ((m + 1 : Nat) : Int)), (45, I x.1.2)]) (fun x => [(x.1.1, 3, (F x.1.2).map Slt), (r3, 1, ks.map I)]) (fun x => m + 1 - x.1.2) ⟨(r0, 0), by simp⟩ (by simp [E2, hF0] <;> omega) (by simp [subH, hget, names, hF0, *]) ?_
  rintro ⟨⟨q, n⟩, hn⟩ hne
  dsimp only at hn hne ⊢
  rcases Nat.lt_or_ge n (m + 1) with hlt | hge
  · have hbl := hLb n
    have hn16 : n * 1048576 ≤ 1048576 * 17 := by omega
    have hnl : n < ks.length := by omega
    obtain ⟨j, hj, hjl⟩ := hks n hnl
    have hat : ks.getD n 0 = (j : Int) := by rw [getD_lt hnl, hj]
    have hFn := hFs n
    rw [hat] at hFn
    unfold slK at hFn
    replace hin := fun {a : Att} => hin hjl (a := a)
    have hsm := smSy_f hg (symN g t j)
    unfold smSy at hsm
    (replace hne := hne; simp only [VN] at hne)
    (refine V1 (jO hj hne) ?_; with_reducible repeat' first | exact trivial | intro h | refine aO ?_ | refine eO ?_ | apply And.intro)
    all_goals try (exfalso; omega)
    refine callS.eq (w137 g t j hg) ?_
    (refine V0 ?_; with_reducible repeat' first | exact trivial | intro h | refine aO ?_ | refine eO ?_ | apply And.intro)
    refine callS.eq (w103 g _ hg) ?_
    generalize fSym g.syms (symN g t j) = s at *
    obtain ⟨M, hM⟩ : ∃ M : List Slo, M = s.atts.map fun a => ⟨n, a.name, slV t L vs j a⟩ := ⟨_, rfl⟩
    rw [← hM] at hFn
    have hMl : M.length = s.atts.length := by rw [hM]; simp
    (refine V1 hne ?_; with_reducible repeat' first | exact trivial | intro h | refine aO ?_ | refine eO ?_ | apply And.intro)
    refine ploop mxd (ι := { x : Nat × Nat // x.2 ≤ s.atts.length }) (fun x => [(3, IS vs), (4, .rop 2 (Gr g)), (5, .rop 1 (Tr t)), (9, InsS L), (10, .own x.1.1 3 0 ((F n).length + x.1.2)), (11, I n), (12, I j), (43, .own r3 1 0 (m + 1)), (44, I ((m + 1 : Nat) : Int)), (45, I n), (60, AtS s.atts), (61, I s.atts.length), (62, I x.1.2)]) (fun x => [(x.1.1, 3, (F n ++ M.take x.1.2).map Slt), (r3, 1, ks.map I)]) (fun x => s.atts.length - x.1.2) ⟨(q, 0), by simp⟩ (by simp [E2]) (by simp [subH, hget, names, *]) ?_
    rintro ⟨⟨q, k⟩, hk2⟩ hn2
    dsimp only at hk2 hn2 ⊢
    (replace hn2 := hn2; simp only [VN] at hn2)
    rcases Nat.lt_or_ge k s.atts.length with hlt2 | hge2
    · have hx := hin (List.getElem_mem hlt2)
      obtain ⟨b, hb⟩ : ∃ b : Nat, ixI L (t[j].id, s.atts[k].name) = b := ⟨(ixI L (t[j].id, s.atts[k].name)).toNat, by omega⟩
      rw [hb] at hx
      have hb2 : b < vs.length := by omega
      have hsv : slV t L vs j s.atts[k] = vs[b] := by unfold slV; rw [Int.toNat_natCast, getD_lt hjl, hb, Int.toNat_natCast, getD_lt hb2]
      have hMk : M[k]'(by omega) = ⟨n, s.atts[k].name, vs[b]⟩ := by simp only [hM, List.getElem_map, hsv]
      have hjj : (0 ≤ (j : Int) ∧ (j : Int) < t.length) = True := eq_true (by omega)
      (refine V1 hn2 ?_; with_reducible repeat' first | exact trivial | intro h | refine aO ?_ | refine eO ?_ | apply And.intro)
      all_goals try (exfalso; omega)
      refine callS.eq (w201 t j) ?_
      (refine V1 (jO hjj (jO @decide_true hn2)) ?_; with_reducible repeat' first | exact trivial | intro h | refine aO ?_ | refine eO ?_ | apply And.intro)
      all_goals try (exfalso; omega)
      refine callS.eq (w76 L (t[j].id, s.atts[k].name)) ?_
      rw [hb]
      (refine V1 (jO @List.length_append.{0} (jO @List.length_singleton.{0} (jO @List.length_map.{0,0} (jO @List.length_take.{0} (jO hMl (jO @maxLv hn2)))))) ?_; with_reducible repeat' first | exact trivial | intro h | refine aO ?_ | refine eO ?_ | apply And.intro)
      all_goals try (exfalso; omega)
      rename_i q2 _ q3
      have e := takeApp3 Slt (F n) M k (by omega) ((F n).length + k) (by simp; omega)
      rw [hMk] at e
      refine px ⟨(q3, k + 1), by omega⟩ (by simp <;> omega) (by simp [E2] <;> omega) ?_
      show subH _ [(q3, 3, (F n ++ M.take (k + 1)).map Slt), (r3, 1, ks.map I)]
      rw [← e]
      exact (by repeat' (first | exact trivial | (refine And.intro (by simp only [hget_c, *, if_true, if_false]; try rfl) (And.intro (by simp [names_cons, names_nil, *]) ?_))))
    · obtain rfl : k = s.atts.length := by omega
      rw [List.take_of_length_le (by omega), ← hFn]
      have hFl : (F (n + 1)).length = (F n).length + s.atts.length := by rw [hFn, List.length_append, hMl]
      (refine V1 hn2 ?_; with_reducible repeat' first | exact trivial | intro h | refine aO ?_ | refine eO ?_ | apply And.intro)
      all_goals try (exfalso; omega)
      refine px ⟨(q, n + 1), by omega⟩ (by simp <;> omega) (by simp [E2, hFl]) ?_
      show subH _ [(q, 3, (F (n + 1)).map Slt), (r3, 1, ks.map I)]
      exact (by repeat' (first | exact trivial | (refine And.intro (by simp only [hget_c, *, if_true, if_false]; try rfl) (And.intro (by simp [names_cons, names_nil, *]) ?_))))
  · obtain rfl : n = m + 1 := by omega
    (refine V0 ?_; with_reducible repeat' first | exact trivial | intro h | refine aO ?_ | refine eO ?_ | apply And.intro)
    all_goals try (exfalso; omega)
    exact bor_Slt hget_new rfl
set_option maxHeartbeats 4000000 in
theorem w122 (g : Gram) (t : List Nod) (x : Oc) (vs : List Int) (hg : smGr g) (ho : okGr g) (hl : t.length ≤ 1048576) (hkk : ∀ x ∈ t, x.kids.length ≤ 1048576) (ht : treeOf g t (symN g t 0) = true) (hv : (insL g t).length = vs.length) :
    Pure Tryz.prog 122 [Gr g, Tr t, Ins x, IS vs] (· = I (vaX g t (insL g t) vs x)) := by
  unfold vaX evV
  refine gstart mxd i122 rfl (by simp) ?_; refine X0 ?_
  (refine V0 ?_; with_reducible repeat' first | exact trivial | intro h | refine aO ?_ | refine eO ?_ | apply And.intro)
  refine callS.eq (q138 g t x hg hl) ?_
  rcases (Bool.eq_false_or_eq_true (defB g t x)).symm with hd | hd
  · (refine V1 hd ?_; with_reducible repeat' first | exact trivial | intro h | refine aO ?_ | refine eO ?_ | apply And.intro)
    all_goals try simp [hd]
  · obtain ⟨j, hj, hjl⟩ := defO_in hd
    have hk := tree_kl ht hjl
    have hids := tree_ids ht hjl
    have hoe := defE_ok ho t x
    have hwe := defE_small hg t x
    have hsl := w191 g t j vs hg hl hkk ht hjl hv
    simp only [hj, hd, if_true, Int.toNat_natCast, getD_lt hjl]
    generalize defE g t x = e at *
    generalize slL g t j (insL g t) vs = sl at *
    (refine V0 ?_; with_reducible repeat' first | exact trivial | intro h | refine aO ?_ | refine eO ?_ | apply And.intro)
    all_goals try (exfalso; omega)
    refine callS.eq hsl ?_
    (refine V0 ?_; with_reducible repeat' first | exact trivial | intro h | refine aO ?_ | refine eO ?_ | apply And.intro)
    all_goals try (exfalso; omega)
    refine callS.eq (q192 t j hl hkk) ?_
    (refine V0 ?_; with_reducible repeat' first | exact trivial | intro h | refine aO ?_ | refine eO ?_ | apply And.intro)
    rw [← Ex_eq]
    refine callS.eq (w190 e sl _ _ hoe hwe hids) ?_
    (refine V0 ?_; with_reducible repeat' first | exact trivial | intro h | refine aO ?_ | refine eO ?_ | apply And.intro)
theorem w121 (g : Gram) (t : List Nod) (x : Oc) (vs : List Int) (hg : smGr g) (ho : okGr g) (hl : t.length ≤ 1048576) (hkk : ∀ x ∈ t, x.kids.length ≤ 1048576) (ht : treeOf g t (symN g t 0) = true) (hv : (insL g t).length = vs.length) (hx : x ∈ insL g t) :
    Pure Tryz.prog 121 [Ins x, .rop 1 (IS vs), .rop 1 (InsS (insL g t)), .rop 2 (Gr g), .rop 1 (Tr t)] (· = B (badS g t vs x)) := by
  have hd := w122 g t x vs hg ho hl hkk ht hv
  have hx2 := ixI_in hx
  unfold badS
  generalize vaX g t (insL g t) vs x = v at *
  generalize insL g t = L at *
  obtain ⟨b, hb⟩ : ∃ b : Nat, ixI L x = b := ⟨(ixI L x).toNat, by omega⟩
  rw [hb] at hx2
  have hb2 : b < vs.length := by omega
  rw [hb, Int.toNat_natCast, getD_lt hb2]
  refine gstart mxd i121 rfl (by simp) ?_; refine X0 ?_
  (refine V0 ?_; with_reducible repeat' first | exact trivial | intro h | refine aO ?_ | refine eO ?_ | apply And.intro)
  refine callS.eq (w76 L x) ?_
  rw [hb]
  (refine V0 ?_; with_reducible repeat' first | exact trivial | intro h | refine aO ?_ | refine eO ?_ | apply And.intro)
  all_goals try (exfalso; omega)
  refine callS.eq hd ?_
  (refine V0 ?_; with_reducible repeat' first | exact trivial | intro h | refine aO ?_ | refine eO ?_ | apply And.intro)
theorem w59 (g : Gram) (t : List Nod) (vs : List Int) (hg : smGr g) (ho : okGr g) (hl : t.length ≤ 1048576) (hkk : ∀ x ∈ t, x.kids.length ≤ 1048576) :
    Pure Tryz.prog 59 [Gr g, Tr t, IS vs] (· = B (decide (0 < (insL g t).length) && (decide ((insL g t).length = vs.length) && !(insL g t).any (badS g t vs)))) := by
  have hqi := q74 g t hg hl hkk
  by_cases h2 : 0 < (insL g t).length
  case neg =>
    have h20 : ((0 : Int) < (insL g t).length) = False := eq_false (by omega)
    simp only [h2, decide_false, Bool.false_and]
    generalize insL g t = L at *
    refine gstart mxd i59 rfl (by simp) ?_; refine X0 ?_
    (refine V0 ?_; with_reducible repeat' first | exact trivial | intro h | refine aO ?_ | refine eO ?_ | apply And.intro)
    refine callS.eq hqi ?_
    (refine V1 (jO h20 (jO @gt_iff_lt.{0} @decide_false)) ?_; with_reducible repeat' first | exact trivial | intro h | refine aO ?_ | refine eO ?_ | apply And.intro)
  by_cases h3 : (insL g t).length = vs.length
  case neg =>
    have h20 : ((0 : Int) < (insL g t).length) = True := eq_true (by omega)
    have h30 : ((vs.length : Int) = (insL g t).length) = False := eq_false (by omega)
    simp only [h3, decide_false, Bool.false_and, Bool.and_false]
    generalize insL g t = L at *
    refine gstart mxd i59 rfl (by simp) ?_; refine X0 ?_
    (refine V0 ?_; with_reducible repeat' first | exact trivial | intro h | refine aO ?_ | refine eO ?_ | apply And.intro)
    refine callS.eq hqi ?_
    (refine V1 (jO h20 (jO h30 (jO @gt_iff_lt.{0} (jO @decide_false @decide_true)))) ?_; with_reducible repeat' first | exact trivial | intro h | refine aO ?_ | refine eO ?_ | apply And.intro)
  have htr := insL_tree h2
  have hcl := w120 (insL g t) 121 [.rop 1 (IS vs), .rop 1 (InsS (insL g t)), .rop 2 (Gr g), .rop 1 (Tr t)] (badS g t vs) fun x hx => w121 g t x vs hg ho hl hkk htr h3 hx
  have h20 : ((0 : Int) < (insL g t).length) = True := eq_true (by omega)
  have h30 : ((vs.length : Int) = (insL g t).length) = True := eq_true (by omega)
  have h2' : 0 < vs.length := by omega
  simp only [h2', h3, decide_true, Bool.true_and]
  generalize (insL g t).any (badS g t vs) = res at *
  generalize insL g t = L at *
  refine gstart mxd i59 rfl (by simp) ?_; refine X0 ?_
  (refine V0 ?_; with_reducible repeat' first | exact trivial | intro h | refine aO ?_ | refine eO ?_ | apply And.intro)
  refine callS.eq hqi ?_
  (refine V1 (jO h20 (jO h30 (jO @gt_iff_lt.{0} @decide_true))) ?_; with_reducible repeat' first | exact trivial | intro h | refine aO ?_ | refine eO ?_ | apply And.intro)
  refine callS.eq hcl ?_
  (refine V0 ?_; with_reducible repeat' first | exact trivial | intro h | refine aO ?_ | refine eO ?_ | apply And.intro)
theorem w26 (g : Gram) (t : List Nod) (vs : List Int) (hg : smGr g) (ho : okGr g) (hl : t.length ≤ 1048576) (hkk : ∀ x ∈ t, x.kids.length ≤ 1048576) :
    Pure Tryz.prog 26 [Gr g, Tr t, IS vs] (· = B (solB g t vs)) := by
  rw [solB_eq]
  unfold solI
  have hso := w59 g t vs hg ho hl hkk
  generalize (decide (0 < (insL g t).length) && (decide ((insL g t).length = vs.length) && !(insL g t).any (badS g t vs))) = res at *
  refine gstart mxd i26 rfl (by simp) ?_; refine X0 ?_
  (refine V0 ?_; with_reducible repeat' first | exact trivial | intro h | refine aO ?_ | refine eO ?_ | apply And.intro)
  refine callS.eq (w23 g hg ho) ?_
  rcases (Bool.eq_false_or_eq_true (staS g)).symm with hb | hb
  · simp only [hb, Bool.false_and]
    (refine V0 ?_; with_reducible repeat' first | exact trivial | intro h | refine aO ?_ | refine eO ?_ | apply And.intro)
  simp only [hb, Bool.true_and]
  (refine V0 ?_; with_reducible repeat' first | exact trivial | intro h | refine aO ?_ | refine eO ?_ | apply And.intro)
  refine callS.eq hso ?_
  (refine V0 ?_; with_reducible repeat' first | exact trivial | intro h | refine aO ?_ | refine eO ?_ | apply And.intro)
theorem w6 (g : Gram) (t : List Nod) (vs : List Int) (ho : okGr g) (ht : ∀ x ∈ t, x.rule.size ≤ maxLen) : Pure Tryz.prog 6 [Gr g, Tr t, IS vs] (· = B true) := by
  refine gstart mxd i6 rfl (by simp) ?_; refine X0 ?_
  (refine R0 ?_; with_reducible repeat' first | exact trivial | intro h | refine aO ?_ | refine eO ?_ | apply And.intro)
  have hi : vs.length ≤ 1048576 := by omega
  refine callS.eq (w7 g _ (by omega) (by omega) ho) ?_
  (refine R0 ?_; with_reducible repeat' first | exact trivial | intro h | refine aO ?_ | refine eO ?_ | apply And.intro)
  have h1 := szv_nn h
  have hs := smGr_of (g := g) (by omega)
  rw [szv_pos h1]
  refine callS.eq (w8 t _ (by omega) (by omega) ht) ?_
  (refine R0 ?_; with_reducible repeat' first | exact trivial | intro h | refine aO ?_ | refine eO ?_ | apply And.intro)
  have hb := szTr h (by omega)
  repeat' (first | (with_reducible refine callS.eq (w10 g hs) ?_) | (with_reducible refine callS.eq (w11 t hb.1 hb.2) ?_) | (with_reducible refine callS.eq (w25 vs hi) ?_) | (with_reducible refine callS.eq (w24 g t vs hs ho hb.1 hb.2 hi) ?_) | (with_reducible refine callS.eq (w26 g t vs hs ho hb.1 hb.2) ?_) | (with_reducible refine callS.eq (w14 g g) ?_) | (with_reducible refine callS.eq (w15 t t) ?_) | (with_reducible refine callS.eq (w13 vs vs) ?_) | simp (maxSteps := 9^7) only [↓ S2, S2, vIte, ↓reduceIte, reduceNe, reduceEqDiff, reduceCtorEq, reduceLeDiff, reduceAdd, reduceLT] | simp only [brGen] | simp +contextual (disch := omega) only [Z2] | (with_reducible intro h) | (with_reducible apply And.intro))
  all_goals first | rfl | (exfalso; simp_all; done) | simp_all
end Go.Proofs.YtbdmpkidcpblaaaGreat
